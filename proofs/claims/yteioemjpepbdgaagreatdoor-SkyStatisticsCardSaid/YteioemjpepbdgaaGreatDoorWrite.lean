import Derived.Laws.CopyOwn
import Derived.Test.YteioemjpepbdgaaGreatDoorMake
set_option linter.all false
section
namespace VE
open Go
section
variable {Λ : Link} {H : Hint} {m : Mp} {S : Nat → Prop} {w : World} {tm : Env} {a : Act} {hp : Hp} {ct : Nat}
structure One (w w' : World) (g : Nat) : Prop where
  os : w'.os = w.os
  tape : w'.tape = w.tape
  output : w'.output = w.output
  size : w'.heap.size = w.heap.size
  other : ∀ b, b ≠ g → w'.heap[b]? = w.heap[b]?
theorem one_setRow (w : World) (g : Nat) (cs : Array Value) : One w (w.setRow g cs) g :=
  ⟨rfl, rfl, rfl, by simp, fun b hb => setRow_other w g b cs hb⟩
theorem own_of {id : Nat} {o : Obj} {p : Pl} (h : hget hp id = some o) (hm : m id = some p) : Own m hp p.b := ⟨id, o, p, h, hm, rfl⟩
theorem own_hset {id : Nat} {o' : Obj} {b : Nat} (h : Own m (hset hp id o') b) : Own m hp b := by
  obtain ⟨i, o, p, h1, h2, h3⟩ := h
  rw [hget_hset] at h1
  by_cases hi : id = i
  · subst hi
    simp only [if_true] at h1
    cases hq : hget hp id with
    | none => simp [hq] at h1
    | some q => exact ⟨id, q, p, hq, h2, h3⟩
  · simp only [hi, if_false] at h1
    exact ⟨i, o, p, h1, h2, h3⟩
theorem hrel_set (hh : HRel Λ m S w hp ct) {id : Nat} {o o' : Obj} {p : Pl} {w' : World} (ho : hget hp id = some o) (hm : m id = some p) (hn : ¬ S p.b) (hw : One w w' p.b) (h' : ORel Λ m S w' id o') (hk : ∀ r : Loop, w.heap[p.b]? = some (.loop r) → ∃ r' : Loop, w'.heap[p.b]? = some (.loop r')) :
    HRel Λ m S w' (hset hp id o') ct ∧ Fwd m S w hp m S w' (hset hp id o') ct := by
  have hst : SameOn S w w' := fun b hb => hw.other b (fun e => hn (e ▸ hb))
  refine ⟨⟨?_, hh.lt, ?_, ?_, ?_, hh.low, ?_, ?_, fun i q hq => (by
    rw [hget_hset] at hq
    by_cases hc : id = i
    · subst hc; exact hh.hlt _ _ ho
    · simp only [hc, if_false] at hq; exact hh.hlt _ _ hq)⟩, ⟨hw.os, hw.tape, hw.output, by rw [hw.size]; exact Nat.le_refl _, ?_, fun _ h => h, fun b hb => hst b hb, fun b hb => .inl hb, fun b hb => .inl (own_hset hb), fun _ _ _ h => h, fun b r hb => ?_⟩⟩
  rotate_right
  · by_cases hc : b = p.b
    · subst hc; exact hk r hb
    · exact ⟨r, (hw.other b hc).trans hb⟩
  · intro i q pi hi hmi
    rw [hget_hset] at hi
    by_cases hc : id = i
    · subst hc
      simp only [if_true, ho, Option.isSome_some] at hi
      injection hi with hi
      subst hi
      exact h'
    · simp only [hc, if_false] at hi
      refine orel_mono (fun _ _ h => h) (fun _ h => h) hst (fun q' hq' => ?_) (fun _ _ h => h) (hh.obj i q pi hi hmi)
      exact hw.other _ (fun e => hc (hh.inj i id q o q' p hi ho hq' hm e).symm)
  · intro i j oi oj pi pj hi hj hmi hmj e
    have key : ∀ {i : Nat} {oi : Obj}, hget (hset hp id o') i = some oi → ∃ oi', hget hp i = some oi' := by
      intro i oi hi
      rw [hget_hset] at hi
      by_cases hc : id = i
      · subst hc; exact ⟨o, ho⟩
      · simp only [hc, if_false] at hi; exact ⟨oi, hi⟩
    obtain ⟨oi', hi'⟩ := key hi
    obtain ⟨oj', hj'⟩ := key hj
    exact hh.inj i j oi' oj' pi pj hi' hj' hmi hmj e
  · intro b hb; rw [hw.size]; exact hh.slt b hb
  · intro i q hq; rw [hw.size]; exact hh.blt i q hq
  · intro b hb
    rw [hw.other b (fun e => by have := hh.low id p hm; omega)]
    exact hh.good b hb
  · rw [hw.size]; exact hh.goodS
  · intro b _ hb
    exact hw.other b (fun e => hb (e ▸ own_of ho hm))
def Turns (Λ : Link) (m : Mp) (S : Nat → Prop) (w : World) (a : Act) (hp : Hp) (ct : Nat) (o : Oper) (v : AV) (hp' : Hp) (ct' : Nat) : Prop :=
  ∃ n u w' m' S', (execOp a.eval o).run Λ.P w = .ok n w' ∧ (n = .value u ∨ (n = .skip ∧ u = undef)) ∧ HRel Λ m' S' w' hp' ct' ∧ Rep Λ.fid m' S' w' v u ∧ MLe m m' ∧ Fwd m S w hp m' S' w' hp' ct
theorem one_cell {fid : Nat → Nat} {v : AV} {u : Value} (h : Rep fid m S w v u) (ho : oneCell v = true) : u.oneCell' = true := by
  cases v with
  | fn f a b =>
    cases f with
    | f g => simp only [Rep] at h; obtain ⟨_, _, rfl, _⟩ := h; rfl
    | y l => simp only [Rep] at h; obtain ⟨_, _, rfl⟩ := h; rfl
  | int k n => simp only [Rep] at h; subst h; rfl
  | bool b => simp only [Rep] at h; subst h; rfl
  | flt k n => simp only [Rep] at h; subst h; rfl
  | str s => simp only [Rep] at h; obtain ⟨_, rfl, _⟩ := h; rfl
  | nilp => simp only [Rep] at h; subst h; rfl
  | ptr i k => simp only [Rep] at h; obtain ⟨_, _, rfl⟩ := h; rfl
  | vptr cs => simp only [Rep] at h; obtain ⟨_, _, rfl, _⟩ := h; rfl
  | nils => simp only [Rep] at h; subst h; rfl
  | vsl e n cs => simp only [Rep] at h; rcases h with ⟨_, _, _, rfl, _⟩ | ⟨_, rfl, _, _⟩ <;> rfl
  | fsl _ _ _ _ => simp [oneCell] at ho
  | osl i k n => simp only [Rep] at h; obtain ⟨_, _, _, rfl, _⟩ := h; rfl
  | nilf => simp only [Rep] at h; subst h; rfl
  | nilm => simp only [Rep] at h; subst h; rfl
  | map i => simp only [Rep] at h; obtain ⟨_, _, rfl⟩ := h; rfl
  | vmap ks vs => simp only [Rep] at h; obtain ⟨_, _, _, rfl, _⟩ := h; rfl
  | it i => simp only [Rep] at h; obtain ⟨_, _, rfl⟩ := h; rfl
  | agg cs => simp [oneCell] at ho
  | tup cs => simp [oneCell] at ho
  | undef => simp [oneCell] at ho
theorem one_cells {fid : Nat → Nat} : ∀ {vs : List AV} {us : List Value}, RepL fid m S w vs us → oneCells vs = true → ∀ u ∈ us, u.oneCell' = true
  | [], us, h, _, u, hu => by simp only [RepL] at h; subst h; cases hu
  | v :: r, us, h, ho, u, hu => by
    simp only [RepL] at h
    obtain ⟨u', t, rfl, h1, h2⟩ := h
    simp only [oneCells, Bool.and_eq_true] at ho
    rcases List.mem_cons.1 hu with rfl | hu
    · exact one_cell h1 ho.1
    · exact one_cells h2 ho.2 u hu
theorem row_over {arr : Array Value} {t : TypeId} {p : Pl} {cs new : List AV} {vs : List Value} {o : Nat} {S' : Nat → Prop} {m' : Mp} (hb : w.heap[p.b]? = some (.cells arr t (0, 0))) (hr : RepAt Λ.fid m S w cs p.b p.o)
    (hv : RepL Λ.fid m S w new vs) (hl : o + new.length ≤ cs.length) (hs : p.o + cs.length ≤ arr.size) {w' : World} (hm : MLe m m') (hS : ∀ b, S b → S' b) (hst : SameOn S w w')
    (hw : w'.heap[p.b]? = some (.cells (arr.toList.take (p.o + o) ++ vs ++ arr.toList.drop (p.o + o + vs.length)).toArray t (0, 0))) : RepAt Λ.fid m' S' w' (over o new cs) p.b p.o := by
  obtain ⟨us, h1, h2, h3⟩ := repAt_vals cs p.b p.o hr
  have hvl := repL_len _ _ hv
  have h4 : RepL Λ.fid m S w (over o new cs) (us.take o ++ vs ++ us.drop (o + new.length)) := repL_append (repL_append (repL_take o h1) hv) (repL_drop _ h1)
  refine repAt_of _ _ _ (repL_mono hm hS hst _ _ h4) (fun j u hj => ?_)
  have hcell : ∀ k u, us[k]? = some u → arr[p.o + k]? = some u := by
    intro k u hk
    have := h3 k u hk
    simpa [World.cell?, hb] using this
  simp only [World.cell?, hw, Option.isSome_none, Bool.false_eq_true, if_false]
  rw [List.getElem?_toArray]
  have e1 : (arr.toList.take (p.o + o)).length = p.o + o := by rw [List.length_take, Array.length_toList]; omega
  have e2 : (us.take o).length = o := by rw [List.length_take]; omega
  by_cases c1 : j < o
  · have g1 : (us.take o ++ vs ++ us.drop (o + new.length))[j]? = us[j]? := by
      rw [List.append_assoc, List.getElem?_append_left (by omega), List.getElem?_take_of_lt c1]
    rw [g1] at hj
    rw [List.append_assoc, List.getElem?_append_left (by omega), List.getElem?_take_of_lt (by omega)]
    simpa using hcell j u hj
  · by_cases c2 : j < o + vs.length
    · have g1 : (us.take o ++ vs ++ us.drop (o + new.length))[j]? = vs[j - o]? := by
        rw [List.append_assoc, List.getElem?_append_right (by omega), e2, List.getElem?_append_left (by omega)]
      rw [g1] at hj
      rw [List.append_assoc, List.getElem?_append_right (by omega), e1, List.getElem?_append_left (by omega), show p.o + j - (p.o + o) = j - o by omega]
      exact hj
    · have g1 : (us.take o ++ vs ++ us.drop (o + new.length))[j]? = us[j]? := by
        rw [List.append_assoc, List.getElem?_append_right (by omega), e2, List.getElem?_append_right (by omega), List.getElem?_drop]
        congr 1
        omega
      rw [g1] at hj
      rw [List.append_assoc, List.getElem?_append_right (by omega), e1, List.getElem?_append_right (by omega), List.getElem?_drop, show p.o + o + vs.length + (p.o + j - (p.o + o) - vs.length) = p.o + j by omega]
      simpa using hcell j u hj
theorem over_len {o : Nat} {new cs : List AV} (hl : o + new.length ≤ cs.length) : (over o new cs).length = cs.length := by
  simp only [over, List.length_append, List.length_take, List.length_drop]; omega
theorem pureL_over {o : Nat} {new cs : List AV} (h : pureL cs = true) (h' : pureL new = true) : pureL (over o new cs) = true :=
  pureL_append (pureL_append (pureL_take' _ h) h') (pureL_drop _ _ h)
theorem turn_st {o : Oper} {t : TypeId} {x y : Operand} {sz : Nat} {v : AV} {hp' : Hp} {ct' : Nat} (hH : HintOk Λ H) (ht : TRel Λ m S w tm a.tmps) (hh : HRel Λ m S w hp ct)
    (ho : o.op = .store t x y) (hz : szT Λ.P t = some sz) (hv : evWrite tm hp ct (.st sz (opX H x) (opX H y)) = some (v, hp', ct')) : Turns Λ m S w a hp ct o v hp' ct' := by
  simp only [evWrite] at hv
  have rx := rep_x hH ht x
  cases hx : xget tm (opX H x) <;> rw [hx] at hv rx <;> simp only [reduceCtorEq] at hv
  rename_i id k
  simp only [Rep] at rx
  obtain ⟨p, hm, ex⟩ := rx
  split at hv
  case h_2 => cases hv
  rename_i pu exb z cs hg
  cases hc : (Nat.beq (cellsOf (xget tm (opX H y))).length sz && Nat.ble (k + sz) cs.length && oneCells (cellsOf (xget tm (opX H y)))) with
  | false => rw [hc] at hv; cases hv
  | true =>
    rw [hc] at hv
    simp only [cond_true, Option.some.injEq, Prod.mk.injEq] at hv
    obtain ⟨rfl, rfl, rfl⟩ := hv
    simp only [Bool.and_eq_true] at hc
    have c1 := Nat.eq_of_beq_eq_true hc.1.1
    have c2 := Nat.le_of_ble_eq_true hc.1.2
    have ry := rep_cells (rep_x hH ht y) hc.2
    have hl := repL_len _ _ ry
    obtain ⟨p', arr, t', g1, g2, g3, g4, g5, g6, g7, g8, g9, g10⟩ := hh.obj id _ _ hg hm
    rw [hm] at g1
    injection g1 with g1
    subst g1
    have hone := one_cells ry hc.2
    have hrun := run_storeCells_at Λ.P p.b (p.o + k) t' (a.eval y).cells.toList 0 arr w g2 (by rw [hl]; omega) hone
    simp only [Nat.add_zero] at hrun
    have hsize : (a.eval y).cells.size = sz := by rw [← c1, ← hl]; simp
    have hor : ORel Λ m S (w.setRow p.b (arr.toList.take (p.o + k) ++ (a.eval y).cells.toList ++ arr.toList.drop (p.o + k + (a.eval y).cells.toList.length)).toArray) id
        (.cells true (pu && pureL (cellsOf (xget tm (opX H y)))) exb z (over k (cellsOf (xget tm (opX H y))) cs)) := by
      refine ⟨p, _, t', hm, setRow_heap w p.b arr _ t' _ g2, g3, by rw [over_len (by omega)]; exact g4, ?_, fun h => by rw [over_len (by omega)]; exact g6 h, ?_, ?_, fun _ => g9 rfl, by simp⟩
      · rw [List.size_toArray, List.length_append, List.length_append, List.length_take, List.length_drop, Array.length_toList, hl]; omega
      · exact row_over g2 g7 ry (by omega) (by omega) MLe.refl (fun _ h => h) (fun b hb => setRow_other w p.b b _ (fun e => g9 rfl (e ▸ hb))) (setRow_heap w p.b arr _ t' _ g2)
      · intro h
        simp only [Bool.and_eq_true] at h
        exact pureL_over (g8 h.1) h.2
    obtain ⟨e1, e2⟩ := hrel_set hh hg hm (g9 rfl) (one_setRow w p.b _) hor (fun r hr => by rw [g2] at hr; cases hr)
    refine ⟨.skip, undef, _, m, S, ?_, .inr ⟨rfl, rfl⟩, e1, by simp [Rep, RepL, undef], MLe.refl, e2⟩
    simp only [execOp, ho, Instr.storeAt, ex, Instr.sureAddr, Sem.run_bind, Sem.run_pure, Result.andThen_ok, storeVar, run_sizeOf' hz, hsize, ne_eq, not_true_eq_false, if_false]
    simp [hrun]
theorem sameNow_eq {d : TypeDesc} {k k' : Value} (h : Instr.sameNow d k k' = some true) : k = k' := by
  unfold Instr.sameNow at h
  split at h
  · split at h
    · rename_i e
      simp only [Option.some.injEq, beq_iff_eq] at h
      rw [e, h]
    · cases h
  · rename_i p q
    simp only [Option.some.injEq] at h
    have h2 : (p.data == q.data) = true := by cases p; cases q; exact h
    rw [beq_iff_eq] at h2
    cases p; cases q
    simp only at h2
    rw [h2]
  · simp only [Option.some.injEq, beq_iff_eq] at h
    rw [h]
  · cases h
theorem sameBits_self {d : TypeDesc} {k k' : Value} (h : Instr.sameNow d k k' = some true) (n : Nat) : Instr.sameBits n k' k = true := by
  have e := sameNow_eq h
  subst e
  unfold Instr.sameNow at h
  split at h
  · simp [Instr.sameBits]
  · simp only [Option.some.injEq] at h
    simp [Instr.sameBits, h]
  · simp [Instr.sameBits]
  · cases h
def Put (fid : Nat → Nat) (m : Mp) (S : Nat → Prop) (w : World) (d : TypeDesc) (k x : Value) (es : List MapEntry) (i : Nat) (ks' vs' : List AV) : Prop :=
  (Instr.findNow d k es i = some none ∧ RepL fid m S w ks' (es.map (·.key) ++ [k]) ∧ RepL fid m S w vs' (es.map (·.val) ++ [x])) ∨
  ∃ (j : Nat) (e0 : MapEntry), Instr.findNow d k es i = some (some (i + j, e0.val)) ∧ es[j]? = some e0 ∧ Instr.sameNow d k e0.key = some true ∧ RepL fid m S w ks' (es.map (·.key)) ∧ RepL fid m S w vs' ((es.map (·.val)).set j x)
theorem mput_ok {fid : Nat → Nat} {vk vx : AV} {k x : Value} {d : TypeDesc} (hk : Rep fid m S w vk k) (hx : Rep fid m S w vx x) (hd : fits d vk = true) : ∀ (ks vs : List AV) (es : List MapEntry) (i : Nat) (ks' vs' : List AV),
    RepL fid m S w ks (es.map (·.key)) → RepL fid m S w vs (es.map (·.val)) → mput vk vx ks vs = some (ks', vs') → Put fid m S w d k x es i ks' vs'
  | [], [], es, i, ks', vs', h1, h2, h => by
    simp only [RepL, List.map_eq_nil_iff] at h1
    subst h1
    simp only [mput, Option.some.injEq, Prod.mk.injEq] at h
    obtain ⟨rfl, rfl⟩ := h
    exact .inl ⟨rfl, by simp [RepL, hk], by simp [RepL, hx]⟩
  | [], _ :: _, es, i, ks', vs', h1, h2, h => by simp [mput] at h
  | _ :: _, [], es, i, ks', vs', h1, h2, h => by simp [mput] at h
  | c :: ks, v :: vs, es, i, ks', vs', h1, h2, h => by
    cases es with
    | nil => simp [RepL] at h1
    | cons e es =>
      simp only [List.map_cons, RepL, List.cons.injEq] at h1 h2
      obtain ⟨u, t, ⟨rfl, rfl⟩, hc, hks⟩ := h1
      obtain ⟨u', t', ⟨rfl, rfl⟩, hv, hvs⟩ := h2
      simp only [mput] at h
      cases hke : keyEq vk c with
      | none => simp [hke] at h
      | some b =>
        have hs := keyEq_ok (d := d) hk hc hke hd
        cases b with
        | true =>
          simp only [hke, Option.some.injEq, Prod.mk.injEq] at h
          obtain ⟨rfl, rfl⟩ := h
          refine .inr ⟨0, e, by simp [Instr.findNow, hs], rfl, hs, ?_, ?_⟩
          · simp only [List.map_cons, RepL]; exact ⟨_, _, rfl, hc, hks⟩
          · simp only [List.map_cons, List.set_cons_zero, RepL]; exact ⟨_, _, rfl, hx, hvs⟩
        | false =>
          simp only [hke] at h
          cases hm : mput vk vx ks vs with
          | none => simp [hm] at h
          | some q =>
            obtain ⟨k1, v1⟩ := q
            simp only [hm, Option.some.injEq, Prod.mk.injEq] at h
            obtain ⟨rfl, rfl⟩ := h
            rcases mput_ok hk hx hd ks vs es (i + 1) k1 v1 hks hvs hm with ⟨g1, g2, g3⟩ | ⟨j, e0, g1, g2, g3, g4, g5⟩
            · refine .inl ⟨by simp [Instr.findNow, hs, g1], ?_, ?_⟩
              · simp only [List.map_cons, List.cons_append, RepL]; exact ⟨_, _, rfl, hc, g2⟩
              · simp only [List.map_cons, List.cons_append, RepL]; exact ⟨_, _, rfl, hv, g3⟩
            · refine .inr ⟨j + 1, e0, ?_, by simpa using g2, g3, ?_, ?_⟩
              · simp only [Instr.findNow, hs, g1]
                rw [show i + 1 + j = i + (j + 1) by omega]
              · simp only [List.map_cons, RepL]; exact ⟨_, _, rfl, hc, g4⟩
              · simp only [List.map_cons, List.set_cons_succ, RepL]; exact ⟨_, _, rfl, hv, g5⟩
theorem one_setObj (w : World) (g : Nat) (o : Go.Obj) : One w { w with heap := w.heap.setIfInBounds g o } g :=
  ⟨rfl, rfl, rfl, by simp, fun b hb => by simp [Array.getElem?_setIfInBounds_ne (fun e => hb e.symm)]⟩
theorem setObj_new {g : Nat} {o q : Go.Obj} (h : w.heap[g]? = some q) : ({ w with heap := w.heap.setIfInBounds g o } : World).heap[g]? = some o := by
  have := (Array.getElem?_eq_some_iff.1 h).1
  simp [this]
theorem turn_mup {o : Oper} {t kt e : TypeId} {x k y : Operand} {kk : Nat} {v : AV} {hp' : Hp} {ct' : Nat} (hH : HintOk Λ H) (ht : TRel Λ m S w tm a.tmps) (hh : HRel Λ m S w hp ct)
    (ho : o.op = .mapUpdate t x k y ∨ o.op = .insert t x k y) (hu : Λ.P.underlying t = some (.map kt e)) (hkk : VE.keyOf Λ.P kt = some kk) (hv : evWrite tm hp ct (.mup kk (opX H x) (opX H k) (opX H y)) = some (v, hp', ct')) : Turns Λ m S w a hp ct o v hp' ct' := by
  simp only [evWrite] at hv
  have rx := rep_x hH ht x
  cases hx : xget tm (opX H x) <;> rw [hx] at hv rx <;> simp only [reduceCtorEq] at hv
  rename_i id
  simp only [Rep] at rx
  obtain ⟨p, hm, ex⟩ := rx
  split at hv
  case h_2 => cases hv
  rename_i ks vs hg
  cases hc : keyKind kk (xget tm (opX H k)) with
  | false => simp [hc] at hv
  | true =>
    simp only [hc, Bool.not_true, cond_false] at hv
    cases hp1 : mput (xget tm (opX H k)) (xget tm (opX H y)) ks vs with
    | none => simp [hp1] at hv
    | some q =>
      obtain ⟨ks', vs'⟩ := q
      simp only [hp1, Option.some.injEq, Prod.mk.injEq] at hv
      obtain ⟨rfl, rfl, rfl⟩ := hv
      obtain ⟨d, hd1, hd2, hd3⟩ := keyOf_fits hkk hc
      obtain ⟨p', es, clock, g1, g2, g3, g4, g5, g6⟩ := hh.obj id _ _ hg hm
      rw [hm] at g1
      injection g1 with g1
      subst g1
      have hput := mput_ok (d := d) (rep_x hH ht k) (rep_x hH ht y) hd3 ks vs es.toList 0 ks' vs' g3 g4 hp1
      have fin : ∀ (es' : Array MapEntry) (c' : Nat), (Instr.mapUpdate t (a.eval x) (a.eval k) (a.eval y)).run Λ.P w = .ok () { w with heap := w.heap.setIfInBounds p.b (.map es' c') } →
          RepL Λ.fid m S w ks' (es'.toList.map (·.key)) → RepL Λ.fid m S w vs' (es'.toList.map (·.val)) → Turns Λ m S w a hp ct o (.tup []) (hset hp id (.mp true ks' vs')) ct := by
        intro es' c' hrun h1 h2
        have hst : SameOn S w { w with heap := w.heap.setIfInBounds p.b (.map es' c') } := fun b hb => (one_setObj w p.b _).other b (fun e => g5 rfl (e ▸ hb))
        have hor : ORel Λ m S { w with heap := w.heap.setIfInBounds p.b (.map es' c') } id (.mp true ks' vs') :=
          ⟨p, es', c', hm, setObj_new g2, repL_mono (fun _ _ h => h) (fun _ h => h) hst _ _ h1, repL_mono (fun _ _ h => h) (fun _ h => h) hst _ _ h2, fun _ => g5 rfl, by simp⟩
        obtain ⟨e1, e2⟩ := hrel_set hh hg hm (g5 rfl) (one_setObj w p.b _) hor (fun r hr => by rw [g2] at hr; cases hr)
        refine ⟨.skip, undef, _, m, S, ?_, .inr ⟨rfl, rfl⟩, e1, by simp [Rep, RepL, undef], MLe.refl, e2⟩
        rcases ho with ho | ho <;> simp [execOp, ho, hrun]
      have hck := run_checkKey_plain' (P := Λ.P) (w := w) hd1 hd2 false (a.eval k)
      rcases hput with ⟨h1, h2, h3⟩ | ⟨j, e0, h1, h2, h3, h4, h5⟩
      · refine fin (es.push ⟨a.eval k, a.eval y, clock⟩) (clock + 1) ?_ (by simpa using h2) (by simpa using h3)
        rw [ex]
        simp [Instr.mapUpdate, run_underlying hu, MapKept.run_getObj_map g2, hck, Instr.findKey, run_underlying hd1, h1, MapKept.run_setObj_map _ g2]
      · have hj : es[j]? = some e0 := by simpa using h2
        simp only [Nat.zero_add] at h1
        have hkey := sameNow_eq h3
        refine fin (es.modify j fun e => { e with key := a.eval k, val := a.eval y }) clock ?_ ?_ ?_
        · rw [ex]
          have hsb : Instr.sameBits 10000 (a.eval k) (a.eval k) = true := by have := sameBits_self h3 10000; rwa [← hkey] at this
          simp [Instr.mapUpdate, run_underlying hu, MapKept.run_getObj_map g2, hck, Instr.findKey, run_underlying hd1, h1, MapKept.run_setObj_map _ g2, hj, Instr.keyThatStays, hsb, hkey.symm]
        · have : (es.modify j fun e => { e with key := a.eval k, val := a.eval y }).toList.map (·.key) = es.toList.map (·.key) := by
            apply List.ext_getElem?
            intro n
            simp only [List.getElem?_map, Array.getElem?_toList, Array.getElem?_modify]
            by_cases hn : j = n
            · subst hn; simp [hj, hkey]
            · simp [hn]
          rw [this]; exact h4
        · have : (es.modify j fun e => { e with key := a.eval k, val := a.eval y }).toList.map (·.val) = (es.toList.map (·.val)).set j (a.eval y) := by
            apply List.ext_getElem?
            intro n
            simp only [List.getElem?_map, Array.getElem?_toList, Array.getElem?_modify, List.getElem?_set]
            by_cases hn : j = n
            · subst hn
              have := (Array.getElem?_eq_some_iff.1 hj).1
              simp [this]
            · simp [hn]
          rw [this]; exact h5
theorem get_nat (t : ByteArray) (i : Nat) : (t.get! i).toNat = (t.data.toList.map UInt8.toNat).getD i 0 := by
  have : t.get! i = t.data[i]! := by cases t; rfl
  rw [this]
  by_cases h : i < t.data.size
  · have h1 : t.data[i]! = t.data[i] := getElem!_pos t.data i h
    have h2 : t.data[i]? = some t.data[i] := by simp []
    rw [h1, List.getD_eq_getElem?_getD, List.getElem?_map, Array.getElem?_toList, h2]
    rfl
  · simp only [Array.getElem!_eq_getD, Array.getD_eq_getD_getElem?, List.getD_eq_getElem?_getD, List.getElem?_map, Array.getElem?_toList]
    rw [Array.getElem?_eq_none (by omega)]
    rfl
theorem decode_ok (t : ByteArray) (i : Nat) : decodeL (t.data.toList.map UInt8.toNat) i = Utf8.decode t i := by
  have hsz : (t.data.toList.map UInt8.toNat).length = t.size := by simp
  simp only [decodeL, Utf8.decode, get_nat, hsz]
theorem turn_nxt {o : Oper} {x : Operand} {v : AV} {hp' : Hp} {ct' : Nat} (hH : HintOk Λ H) (ht : TRel Λ m S w tm a.tmps) (hh : HRel Λ m S w hp ct)
    (ho : o.op = .next x true) (hv : evWrite tm hp ct (.nxt (opX H x)) = some (v, hp', ct')) : Turns Λ m S w a hp ct o v hp' ct' := by
  simp only [evWrite] at hv
  have rx := rep_x hH ht x
  cases hx : xget tm (opX H x) <;> rw [hx] at hv rx <;> simp only [reduceCtorEq] at hv
  rename_i id
  simp only [Rep] at rx
  obtain ⟨p, hm, ex⟩ := rx
  split at hv
  case h_2 => cases hv
  rename_i s pos hg
  obtain ⟨p', t, g1, g2, g3, g4⟩ := hh.obj id _ _ hg hm
  rw [hm] at g1
  injection g1 with g1
  subst g1
  have hget : (getObj p.b).run Λ.P w = .ok (.stringIter t pos) w := by simp [getObj, Sem.run, g2]
  have hlen : s.length = t.size := by rw [← g3]; simp
  cases hc : Nat.blt pos s.length with
  | false =>
    rw [hc] at hv
    simp only [cond_false, Option.some.injEq, Prod.mk.injEq] at hv
    obtain ⟨rfl, rfl, rfl⟩ := hv
    have hlt : ¬ pos < t.size := by
      intro h
      have : Nat.blt pos s.length = true := by simp [Nat.blt]; omega
      rw [this] at hc; cases hc
    refine ⟨.value (.tuple #[.bool false]), .tuple #[.bool false], w, m, S, ?_, .inl rfl, hh, by simp [Rep, RepL], MLe.refl, Fwd.refl⟩
    simp [execOp, ho, ex, Instr.next, hget, hlt]
  | true =>
    rw [hc] at hv
    simp only [cond_true] at hv
    have hlt : pos < t.size := by
      have : pos + 1 ≤ s.length := by simpa [Nat.blt] using hc
      omega
    cases hdc : decodeL s pos with | mk c wd =>
    rw [hdc] at hv
    simp only [Option.some.injEq, Prod.mk.injEq] at hv
    obtain ⟨rfl, rfl, rfl⟩ := hv
    have hd : Utf8.decode t pos = (c, wd) := by rw [← decode_ok, g3, hdc]
    have hor : ORel Λ m S { w with heap := w.heap.setIfInBounds p.b (.stringIter t (pos + wd)) } id (.si s (pos + wd)) := ⟨p, t, hm, setObj_new g2, g3, g4⟩
    obtain ⟨e1, e2⟩ := hrel_set hh hg hm g4 (one_setObj w p.b _) hor (fun r hr => by rw [g2] at hr; cases hr)
    refine ⟨.value (.tuple #[.bool true, goInt pos, .int .i32 c]), _, _, m, S, ?_, .inl rfl, e1, by simp [Rep, RepL, goInt], MLe.refl, e2⟩
    have hset : (setObj p.b (.stringIter t (pos + wd))).run Λ.P w = .ok () { w with heap := w.heap.setIfInBounds p.b (.stringIter t (pos + wd)) } := by simp [setObj, Sem.run, g2]
    simp [execOp, ho, ex, Instr.next, hget, hlt, hd, hset]
end
end VE
end
section
namespace VE
open Go
theorem hget_hdel {hp : Hp} {id i : Nat} : hget (hdel hp id) i = if id = i then none else hget hp i := by
  induction hp with
  | nil => simp [hdel, hget]
  | cons x r ih =>
    obtain ⟨j, q⟩ := x
    simp only [hdel]
    by_cases hj : j = id
    · subst hj
      simp only [Nat.beq_refl, cond_true, ih, hget]
      by_cases hi : j = i
      · subst hi; simp
      · have : Nat.beq j i = false := by
          cases hq : Nat.beq j i with
          | false => rfl
          | true => exact absurd (Nat.eq_of_beq_eq_true hq) hi
        simp [this, hi]
    · have hb : Nat.beq j id = false := by
        cases hq : Nat.beq j id with
        | false => rfl
        | true => exact absurd (Nat.eq_of_beq_eq_true hq) hj
      simp only [hb, cond_false]
      rw [show hget ((j, q) :: hdel r id) i = bif Nat.beq j i then some q else hget (hdel r id) i from rfl, ih]
      by_cases hi : j = i
      · subst hi
        have : ¬ id = j := fun h => hj h.symm
        simp [Nat.beq_refl, this, hget]
      · have hbi : Nat.beq j i = false := by
          cases hq : Nat.beq j i with
          | false => rfl
          | true => exact absurd (Nat.eq_of_beq_eq_true hq) hi
        simp [hbi, hget]
section
variable {Λ : Link} {H : Hint} {m : Mp} {S : Nat → Prop} {w : World} {tm : Env} {a : Act} {hp : Hp} {ct : Nat}
def Src (P : Program) (w : World) (size n : Nat) (news : List Value) (x : Value) : Prop :=
  (∀ w', (Builtin.lenOf x).run P w' = .ok n w') ∧ news.length = n * size ∧
  ∀ w', w'.heap = w.heap → ∀ k, k ≤ n → (Builtin.firstCells size k x).run P w' = .ok (news.take (k * size)).toArray w'
theorem src_slice {P : Program} {size n c : Nat} {b : Addr} {news : List Value} (hl : news.length = n * size) (hc : ∀ j u, news[j]? = some u → w.cell? (b.add j) = some u) :
    Src P w size n news (.slice (some b) n c) := by
  refine ⟨fun w' => by simp [Builtin.lenOf], hl, fun w' hw k hk => ?_⟩
  have hle : k * size ≤ news.length := by rw [hl]; exact Nat.mul_le_mul_right _ hk
  refine run_firstCells_some (P := P) w' size k b n c (news.take (k * size)) (by rw [List.length_take]; omega) (fun j v hv => ?_)
  rw [List.getElem?_take] at hv
  split at hv
  · have := hc j v hv
    simpa [World.cell?, hw] using this
  · cases hv
theorem src_nil {P : Program} {size : Nat} : Src P w size 0 [] (.slice none 0 0) :=
  ⟨fun w' => by simp [Builtin.lenOf], by simp, fun w' _ k hk => by simp [Builtin.firstCells]⟩
theorem bytes_take (s : ByteArray) (k : Nat) : (s.extract 0 k).data.map (fun b => Value.int .u8 b.toNat) = ((s.data.toList.map fun b => Value.int .u8 (b.toNat : Int)).take k).toArray := by
  have : (s.extract 0 k).data = s.data.extract 0 k := by simp
  rw [this]
  apply Array.ext'
  simp []
theorem src_str {P : Program} {s : ByteArray} : Src P w 1 s.size (s.data.toList.map fun b => Value.int .u8 (b.toNat : Int)) (.string s) := by
  refine ⟨fun w' => by simp [Builtin.lenOf], by simp, fun w' _ k hk => ?_⟩
  simp only [Builtin.firstCells, Sem.run_pure, Nat.mul_one]
  rw [bytes_take]
theorem bytesAV_rep {fid : Nat → Nat} : ∀ l : List UInt8, RepL fid m S w (bytesAV (l.map UInt8.toNat)) (l.map fun b => Value.int .u8 (b.toNat : Int))
  | [] => by simp [bytesAV, RepL]
  | b :: r => by
    simp only [List.map_cons, bytesAV, RepL]
    exact ⟨_, _, rfl, by simp [Rep], bytesAV_rep r⟩
theorem cellsAt_ok {size n : Nat} {vx : AV} {x : Value} {cs : List AV} (hh : HRel Λ m S w hp ct) (hx : Rep Λ.fid m S w vx x) (h : cellsAt hp size vx = some (n, cs)) :
    ∃ us, RepL Λ.fid m S w cs us ∧ Src Λ.P w size n us x := by
  cases vx <;> simp only [cellsAt, reduceCtorEq] at h
  case nils =>
    simp only [Option.some.injEq, Prod.mk.injEq] at h
    obtain ⟨rfl, rfl⟩ := h
    simp only [Rep] at hx
    subst hx
    exact ⟨[], by simp [RepL], src_nil⟩
  case vsl ex n' cs' =>
    cases hc : Nat.beq cs'.length (n' * size) with
    | false => rw [hc] at h; cases h
    | true =>
      rw [hc] at h
      simp only [cond_true, Option.some.injEq, Prod.mk.injEq] at h
      obtain ⟨rfl, rfl⟩ := h
      have hl := Nat.eq_of_beq_eq_true hc
      simp only [Rep] at hx
      rcases hx with ⟨b, o, c, rfl, h1, h2, h3, h4, h5⟩ | ⟨ad, rfl, rfl, rfl⟩
      · obtain ⟨us, g1, g2, g3⟩ := repAt_vals _ b o h5
        exact ⟨us, g1, src_slice (by omega) (fun j u hj => by rw [add_mk]; exact g3 j u hj)⟩
      · exact ⟨[], by simp [RepL], src_slice (by simp) (fun j u hj => by simp at hj)⟩
  case osl id o n' =>
    cases hg : hget hp id with
    | none => simp [hg] at h
    | some ob =>
      cases ob <;> simp only [hg, reduceCtorEq] at h
      rename_i rw pu ex z cs'
      cases hc : Nat.ble (o + n' * size) cs'.length with
      | false => rw [hc] at h; cases h
      | true =>
        rw [hc] at h
        simp only [cond_true, Option.some.injEq, Prod.mk.injEq] at h
        obtain ⟨rfl, rfl⟩ := h
        have hl := Nat.le_of_ble_eq_true hc
        simp only [Rep] at hx
        obtain ⟨p, c, hm, rfl, h1, h2⟩ := hx
        have hr := cells_of (o := 0) (n := 0) hh hg hm
        have hr2 := repAt_take (n' * size) _ _ _ (repAt_drop o _ _ _ hr)
        obtain ⟨us, g1, g2, g3⟩ := repAt_vals _ p.b (p.o + o) hr2
        refine ⟨us, g1, src_slice ?_ (fun j u hj => by rw [add_mk]; exact g3 j u hj)⟩
        rw [g2, List.length_take, List.length_drop]
        omega
theorem appSrc_ok {size n : Nat} {vx : AV} {x : Value} {cs : List AV} (hh : HRel Λ m S w hp ct) (hx : Rep Λ.fid m S w vx x) (h : appSrc hp size vx = some (n, cs)) :
    ∃ us, RepL Λ.fid m S w cs us ∧ Src Λ.P w size n us x := by
  cases vx <;> try exact cellsAt_ok hh hx h
  rename_i b
  simp only [appSrc] at h
  cases hc : Nat.beq size 1 with
  | false => rw [hc] at h; cases h
  | true =>
    rw [hc] at h
    simp only [cond_true, Option.some.injEq, Prod.mk.injEq] at h
    obtain ⟨rfl, rfl⟩ := h
    have := Nat.eq_of_beq_eq_true hc
    subst this
    simp only [Rep] at hx
    obtain ⟨t, rfl, rfl⟩ := hx
    refine ⟨_, bytesAV_rep _, ?_⟩
    have : (List.map UInt8.toNat t.data.toList).length = t.size := by simp
    rw [this]
    exact src_str
theorem run_app_room {P : Program} {t u ty e : TypeId} {i : TypeInfo} (ht : P.underlying t = some (.slice e)) (hu : (∃ e', P.underlying u = some (.slice e')) ∨ P.underlying u = some .string) (hi : P.info? e = some i)
    {g o sLen sCap : Nat} {cur : Array Value} {te : TypeId} (hg : w.heap[g]? = some (.cells cur te (0, 0))) {x : Value} {n : Nat} {news : List Value} (hs : Src P w i.size n news x) (h1 : ∀ u ∈ news, u.oneCell' = true)
    (hroom : sLen + n ≤ sCap) (hfit : o + sLen * i.size + news.length ≤ cur.size) :
    (Builtin.append_ #[t, u] ty #[.slice (some ⟨g, o, none⟩) sLen sCap, x]).run P w =
      .ok (.slice (some ⟨g, o, none⟩) (sLen + n) sCap) (w.setRow g (cur.toList.take (o + sLen * i.size) ++ news ++ cur.toList.drop (o + sLen * i.size + news.length)).toArray) := by
  obtain ⟨hs1, hs2, hs3⟩ := hs
  have hf := hs3 w rfl n (Nat.le_refl _)
  rw [List.take_of_length_le (by omega)] at hf
  have hst := run_storeCells_at P g (o + sLen * i.size) te news 0 cur w hg (by omega) h1
  simp only [Nat.add_zero] at hst
  rcases hu with ⟨e', hd⟩ | hd <;>
    simp [Builtin.append_, run_underlying ht, run_underlying hd, Go.sizeOf, typeInfo, hi, hs1, hroom, hf, add_mk, hst]
theorem run_app_grow {P : Program} {t u ty e : TypeId} {i : TypeInfo} {z : Value} (ht : P.underlying t = some (.slice e)) (hu : (∃ e', P.underlying u = some (.slice e')) ∨ P.underlying u = some .string) (hi : P.info? e = some i) (hz : i.zero = some z)
    {s : Value} {base : Option Addr} {sLen sCap : Nat} (es : s = .slice base sLen sCap) {olds : List Value} (ho : Src P w i.size sLen olds s) {x : Value} {n : Nat} {news : List Value} (hs : Src P w i.size n news x)
    (hg : sCap < sLen + n) (h63 : sLen + n ≤ 1099511627776) (hby : (sLen + n) * i.bytes ≤ 1099511627776) :
    (Builtin.append_ #[t, u] ty #[s, x]).run P w =
      .ok (.slice (some ⟨w.heap.size, 0, none⟩) (sLen + n) (grownCap w (sLen + n) sCap e))
        (w.drew.alloc (.cells ((olds ++ news).toArray ++ Builtin.zeroCells z.cells (grownCap w (sLen + n) sCap e - (sLen + n))) e)) := by
  obtain ⟨hs1, hs2, hs3⟩ := hs
  obtain ⟨ho1, ho2, ho3⟩ := ho
  have hf := hs3 w.drew rfl n (Nat.le_refl _)
  rw [List.take_of_length_le (by omega)] at hf
  have hfo := ho3 w.drew rfl sLen (Nat.le_refl _)
  rw [List.take_of_length_le (by omega)] at hfo
  have hn : ¬ (sLen + n ≤ sCap) := by omega
  have h63' : ¬ (9223372036854775807 < ((sLen : Int) + (n : Int))) := by omega
  have hfit := growslice_fits (need := sLen + n) (old := sCap) (bytes := i.bytes) hg (by omega)
  have h48' : ¬ (281474976710656 < Builtin.nextslicecap (sLen + n) sCap * i.bytes) := by omega
  subst es
  rcases hu with ⟨e', hd⟩ | hd
  all_goals
    simp [Builtin.append_, run_underlying ht, run_underlying hd, Go.sizeOf, typeInfo, zeroValue, hi, hz, hs1, hn, h63', h48', Question.forced, hf, hfo, newRow, askRoom, grownCap]
    congr 2
    apply Array.ext'
    simp [List.append_assoc]
theorem grown_new {e : TypeId} {z : Value} {sz need cap : Nat} {cs : List AV} {us : List Value} (hh : HRel Λ m S w hp ct) (hr : RepL Λ.fid m S w cs us) (hl : us.length = need * sz) (hz : z.cells.size = sz)
    (hpure : Bool) (hpp : hpure = true → pureL cs = true) (hc : need ≤ cap) :
    let w' := w.drew.alloc (.cells (us.toArray ++ Builtin.zeroCells z.cells (cap - need)) e)
    let p : Pl := ⟨w.heap.size, 0, cap * sz, sz⟩
    ∀ m', MLe m m' → m' ct = some p → ORel Λ m' S w' ct (.cells true hpure false sz cs) := by
  intro w' p m' hm hi
  have hst : SameOn S w w' := fun b hb => by
    have := hh.slt b hb
    exact RowKit.Below.heap_alloc w.drew _ b (by simpa using this)
  have hnew : w'.heap[w.heap.size]? = some (.cells (us.toArray ++ Builtin.zeroCells z.cells (cap - need)) e (0, 0)) := heap_alloc_new w.drew _
  have hcl := repL_len _ _ hr
  refine ⟨p, _, e, hi, hnew, rfl, ?_, ?_, by simp, ?_, hpp, ?_, by simp⟩
  · show cs.length ≤ cap * sz
    rw [← hcl, hl]; exact Nat.mul_le_mul_right _ hc
  · show 0 + cap * sz ≤ _
    rw [Array.size_append, List.size_toArray, size_zeroCells, hz, hl, ← Nat.add_mul]
    rw [Nat.zero_add]
    exact Nat.mul_le_mul_right _ (by omega)
  · refine repAt_row hnew cs us 0 (repL_mono hm (fun _ h => h) hst _ _ hr) (fun j u hj => ?_)
    rw [Nat.zero_add, Array.getElem?_append_left (by rw [List.size_toArray]; exact (List.getElem?_eq_some_iff.1 hj).1), List.getElem?_toArray]
    exact hj
  · intro _ hS
    have := hh.slt _ hS
    simp [p] at this
theorem same_drew_alloc (hh : HRel Λ m S w hp ct) (g : Go.Obj) : SameOn S w (w.drew.alloc g) := fun b hb => by
  have := hh.slt b hb
  exact RowKit.Below.heap_alloc w.drew _ b (by simpa using this)
theorem hrel_grow (hh : HRel Λ m S w hp ct) {hp0 : Hp} {g : Go.Obj} {p : Pl} {o : Obj} (hsub : ∀ i q, hget hp0 i = some q → hget hp i = some q) (hb : p.b = w.heap.size)
    (ho : ∀ m', MLe m m' → m' ct = some p → ORel Λ m' S (w.drew.alloc g) ct o) :
    HRel Λ (addM m ct p) S (w.drew.alloc g) ((ct, o) :: hp0) (ct + 1) ∧ Fwd m S w hp (addM m ct p) S (w.drew.alloc g) ((ct, o) :: hp0) ct := by
  have hn : m ct = none := by
    cases h : m ct with
    | none => rfl
    | some q => have := hh.lt _ _ h; omega
  have hle := addM_le hn (p := p)
  have hst := same_drew_alloc hh g
  have hold : ∀ b, b < w.heap.size → (w.drew.alloc g).heap[b]? = w.heap[b]? := fun b hb => RowKit.Below.heap_alloc w.drew _ b (by simpa using hb)
  have hsz : (w.drew.alloc g).heap.size = w.heap.size + 1 := by simp
  have hin : ∀ i q, hget ((ct, o) :: hp0) i = some q → i ≠ ct → hget hp i = some q := fun i q h hi => by
    rw [hget_cons, if_neg (fun e => hi e.symm)] at h
    exact hsub i q h
  refine ⟨⟨?_, ?_, ?_, ?_, ?_, ?_, ?_, ?_, fun i q hq => (by
    by_cases hc : i = ct
    · omega
    · have := hh.hlt _ _ (hin i q hq hc); omega)⟩, ⟨rfl, rfl, rfl, by omega, ?_, fun _ h => h, fun b hb => hst b hb, fun b hb => .inl hb, ?_, fun i q _ h => hle i q h, fun b r hb => ⟨r, (hold b (Array.getElem?_eq_some_iff.1 hb).1).trans hb⟩⟩⟩
  · intro i q pi hi hmi
    by_cases hc : i = ct
    · subst hc
      rw [hget_cons] at hi
      simp only [if_true, Option.some.injEq] at hi
      subst hi
      exact ho _ hle addM_same
    · rw [addM_other hc] at hmi
      exact orel_mono hle (fun _ h => h) hst (fun q' hq' => hold _ (hh.blt i q' hq')) (fun _ _ h => h) (hh.obj i q pi (hin i q hi hc) hmi)
  · intro i q hmi
    by_cases hc : i = ct
    · omega
    · rw [addM_other hc] at hmi; have := hh.lt i q hmi; omega
  · intro i j oi oj pi pj hi hj hmi hmj e
    by_cases ci : i = ct
    · by_cases cj : j = ct
      · rw [ci, cj]
      · subst ci
        rw [addM_same] at hmi
        rw [addM_other cj] at hmj
        injection hmi with hmi
        subst hmi
        have := hh.blt j pj hmj
        omega
    · rw [addM_other ci] at hmi
      by_cases cj : j = ct
      · subst cj
        rw [addM_same] at hmj
        injection hmj with hmj
        subst hmj
        have := hh.blt i pi hmi
        omega
      · rw [addM_other cj] at hmj
        exact hh.inj i j oi oj pi pj (hin i oi hi ci) (hin j oj hj cj) hmi hmj e
  · intro b hb; have := hh.slt b hb; omega
  · intro i q hmi
    by_cases hc : i = ct
    · subst hc
      rw [addM_same] at hmi
      injection hmi with hmi
      subst hmi
      omega
    · rw [addM_other hc] at hmi; have := hh.blt i q hmi; omega
  · intro i q hmi
    have h0 := hh.goodS
    by_cases hc : i = ct
    · subst hc
      rw [addM_same] at hmi
      injection hmi with hmi
      subst hmi
      omega
    · rw [addM_other hc] at hmi; exact hh.low i q hmi
  · intro b hb
    have h0 := hh.goodS
    exact (hold b (by omega)).trans (hh.good b hb)
  · have h0 := hh.goodS; omega
  · intro b hb _; exact hold b hb
  · rintro b ⟨i, q, pi, h1, h2, h3⟩
    by_cases hc : i = ct
    · subst hc
      rw [addM_same] at h2
      injection h2 with h2
      subst h2
      exact .inr (by omega)
    · rw [addM_other hc] at h2
      exact .inl ⟨i, q, pi, hin i q h1 hc, h2, h3⟩
theorem hrel_room (hh : HRel Λ m S w hp ct) {id : Nat} {o o' : Obj} {p p' : Pl} {w' : World} (hg : hget hp id = some o) (hm : m id = some p) (hn : ¬ S p.b) (hw : One w w' p.b) (hk : ∀ r : Loop, w.heap[p.b]? = some (.loop r) → ∃ r' : Loop, w'.heap[p.b]? = some (.loop r')) (hb : p'.b = p.b)
    (ho : ∀ m', MLe m m' → m' ct = some p' → ORel Λ m' S w' ct o') :
    HRel Λ (addM m ct p') S w' ((ct, o') :: hdel hp id) (ct + 1) ∧ Fwd m S w hp (addM m ct p') S w' ((ct, o') :: hdel hp id) ct := by
  have hn' : m ct = none := by
    cases h : m ct with
    | none => rfl
    | some q => have := hh.lt _ _ h; omega
  have hle := addM_le hn' (p := p')
  have hst : SameOn S w w' := fun b hb => hw.other b (fun e => hn (e ▸ hb))
  have hin : ∀ i q, hget ((ct, o') :: hdel hp id) i = some q → i ≠ ct → hget hp i = some q ∧ i ≠ id := fun i q h hi => by
    rw [hget_cons, if_neg (fun e => hi e.symm), hget_hdel] at h
    by_cases hc : id = i
    · simp [hc] at h
    · simp only [hc, if_false] at h
      exact ⟨h, fun e => hc e.symm⟩
  have hoth : ∀ i q pi, hget hp i = some q → i ≠ id → m i = some pi → pi.b ≠ p.b := fun i q pi h hi hmi e => hi (hh.inj i id q o pi p h hg hmi hm e)
  refine ⟨⟨?_, ?_, ?_, ?_, ?_, ?_, ?_, ?_, fun i q hq => (by
    by_cases hc : i = ct
    · omega
    · have := hh.hlt _ _ (hin i q hq hc).1; omega)⟩, ⟨hw.os, hw.tape, hw.output, by rw [hw.size]; exact Nat.le_refl _, ?_, fun _ h => h, fun b hb => hst b hb, fun b hb => .inl hb, ?_, fun i q _ h => hle i q h, fun b r hb => (by
    by_cases hc : b = p.b
    · subst hc; exact hk r hb
    · exact ⟨r, (hw.other b hc).trans hb⟩)⟩⟩
  · intro i q pi hi hmi
    by_cases hc : i = ct
    · subst hc
      rw [hget_cons] at hi
      simp only [if_true, Option.some.injEq] at hi
      subst hi
      exact ho _ hle addM_same
    · rw [addM_other hc] at hmi
      obtain ⟨h1, h2⟩ := hin i q hi hc
      exact orel_mono hle (fun _ h => h) hst (fun q' hq' => hw.other _ (hoth i q q' h1 h2 hq')) (fun _ _ h => h) (hh.obj i q pi h1 hmi)
  · intro i q hmi
    by_cases hc : i = ct
    · omega
    · rw [addM_other hc] at hmi; have := hh.lt i q hmi; omega
  · intro i j oi oj pi pj hi hj hmi hmj e
    by_cases ci : i = ct
    · by_cases cj : j = ct
      · rw [ci, cj]
      · subst ci
        rw [addM_same] at hmi
        rw [addM_other cj] at hmj
        injection hmi with hmi
        subst hmi
        obtain ⟨h1, h2⟩ := hin j oj hj cj
        exact (hoth j oj pj h1 h2 hmj (by rw [← e, hb])).elim
    · rw [addM_other ci] at hmi
      obtain ⟨h1, h2⟩ := hin i oi hi ci
      by_cases cj : j = ct
      · subst cj
        rw [addM_same] at hmj
        injection hmj with hmj
        subst hmj
        exact (hoth i oi pi h1 h2 hmi (by rw [e, hb])).elim
      · rw [addM_other cj] at hmj
        exact hh.inj i j oi oj pi pj h1 (hin j oj hj cj).1 hmi hmj e
  · intro b hb; rw [hw.size]; exact hh.slt b hb
  · intro i q hmi
    rw [hw.size]
    by_cases hc : i = ct
    · subst hc
      rw [addM_same] at hmi
      injection hmi with hmi
      subst hmi
      rw [hb]; exact hh.blt id p hm
    · rw [addM_other hc] at hmi; exact hh.blt i q hmi
  · intro i q hmi
    by_cases hc : i = ct
    · subst hc
      rw [addM_same] at hmi
      injection hmi with hmi
      subst hmi
      rw [hb]; exact hh.low id p hm
    · rw [addM_other hc] at hmi; exact hh.low i q hmi
  · intro b hb
    rw [hw.other b (fun e => by have := hh.low id p hm; omega)]
    exact hh.good b hb
  · rw [hw.size]; exact hh.goodS
  · intro b _ hb'
    exact hw.other b (fun e => hb' (e ▸ own_of hg hm))
  · rintro b ⟨i, q, pi, h1, h2, h3⟩
    by_cases hc : i = ct
    · subst hc
      rw [addM_same] at h2
      injection h2 with h2
      subst h2
      exact .inl ⟨id, o, p, hg, hm, by rw [← h3, hb]⟩
    · rw [addM_other hc] at h2
      exact .inl ⟨i, q, pi, (hin i q h1 hc).1, h2, h3⟩
theorem info_of {P : Program} {e : TypeId} {s by' : Nat} {z : AV} (hs : szT P e = some s) (hb : byT P e = some by') (hz : zeroT P e = some z) :
    ∃ ti zv, P.info? e = some ti ∧ ti.size = s ∧ ti.bytes = by' ∧ ti.zero = some zv ∧ z = valAV zv := by
  unfold szT at hs
  unfold byT at hb
  unfold zeroT at hz
  cases hi : P.info? e with
  | none => simp [hi] at hs
  | some ti =>
    simp only [hi, Option.some.injEq] at hs hb hz
    cases hz' : ti.zero with
    | none => simp [hz'] at hz
    | some zv =>
      simp only [hz', Option.some.injEq] at hz
      exact ⟨ti, zv, rfl, hs, hb, hz', hz.symm⟩
theorem turns_of {o : Oper} {v : AV} {u : Value} {w' : World} {m' : Mp} {S' : Nat → Prop} {hp' : Hp} {ct' : Nat} (h1 : (execOp a.eval o).run Λ.P w = .ok (.value u) w') (h2 : HRel Λ m' S' w' hp' ct') (h3 : Rep Λ.fid m' S' w' v u)
    (h4 : MLe m m') (h5 : Fwd m S w hp m' S' w' hp' ct) : Turns Λ m S w a hp ct o v hp' ct' := ⟨_, u, w', m', S', h1, .inl rfl, h2, h3, h4, h5⟩
theorem turn_app {o : Oper} {b' : TypeId} {t u e : TypeId} {sz by' : Nat} {z : AV} {x y : Operand} {v : AV} {hp' : Hp} {ct' : Nat} (hH : HintOk Λ H) (ht : TRel Λ m S w tm a.tmps) (hh : HRel Λ m S w hp ct)
    (hrun : (execOp a.eval o).run Λ.P w = ((do pure (.value (← Builtin.append_ #[t, u] b' #[a.eval x, a.eval y])) : Sem Next)).run Λ.P w)
    (htt : Λ.P.underlying t = some (.slice e)) (hu : (∃ e', Λ.P.underlying u = some (.slice e')) ∨ Λ.P.underlying u = some .string) (hs : szT Λ.P e = some sz) (hb : byT Λ.P e = some by') (hz : zeroT Λ.P e = some z) (hzl : (cellsOf z).length = sz)
    (hv : evWrite tm hp ct (.app sz by' (opX H x) (opX H y)) = some (v, hp', ct')) : Turns Λ m S w a hp ct o v hp' ct' := by
  simp only [evWrite] at hv
  obtain ⟨ti, zv, hti, rfl, rfl, hzv, rfl⟩ := info_of hs hb hz
  have hval : ∀ u' w', (Builtin.append_ #[t, u] b' #[a.eval x, a.eval y]).run Λ.P w = .ok u' w' → (execOp a.eval o).run Λ.P w = .ok (.value u') w' := fun u' w' h => by
    rw [hrun, Sem.run_bind, h]; rfl
  have hnone : m ct = none := by
    cases h : m ct with
    | none => rfl
    | some q => have := hh.lt _ _ h; omega
  have hzs : zv.cells.size = ti.size := by
    have := repL_len _ _ (rep_val_cells (fid := Λ.fid) (m := m) (S := S) (w := w) zv)
    rw [← hzl, ← this]; simp
  cases hsrc : appSrc hp ti.size (xget tm (opX H y)) with
  | none => simp [hsrc] at hv
  | some q =>
    obtain ⟨n, new⟩ := q
    simp only [hsrc] at hv
    obtain ⟨news, hn1, hn2⟩ := appSrc_ok hh (rep_x hH ht y) hsrc
    have hnl := repL_len _ _ hn1
    have rx := rep_x hH ht x
    cases hx : xget tm (opX H x) with
    | nils =>
      rw [hx] at hv rx
      simp only at hv
      simp only [Rep] at rx
      cases h0 : Nat.beq n 0 with
      | true =>
        rw [h0] at hv
        simp only [cond_true, Option.some.injEq, Prod.mk.injEq] at hv
        obtain ⟨rfl, rfl, rfl⟩ := hv
        have hn0 := Nat.eq_of_beq_eq_true h0
        subst hn0
        have hnews : news = [] := List.eq_nil_of_length_eq_zero (by rw [hn2.2.1]; simp)
        subst hnews
        have hf := hn2.2.2 w rfl 0 (Nat.le_refl _)
        have hl0 := hn2.1 w
        refine ⟨.value (.slice none 0 0), .slice none 0 0, w, m, S, ?_, .inl rfl, hh, by simp [Rep], MLe.refl, Fwd.refl⟩
        rw [hrun, rx]
        rcases hu with ⟨e', hu⟩ | hu <;>
          simp [Builtin.append_, run_underlying htt, run_underlying hu, Go.sizeOf, typeInfo, hti, hl0, hf]
      | false =>
        rw [h0] at hv
        simp only [cond_false] at hv
        cases hc : (Nat.ble n room && (Nat.ble (n * ti.bytes) room && Nat.blt 0 ti.size)) with
        | false => rw [hc] at hv; cases hv
        | true =>
          rw [hc] at hv
          simp only [cond_true, Option.some.injEq, Prod.mk.injEq] at hv
          obtain ⟨rfl, rfl, rfl⟩ := hv
          simp only [Bool.and_eq_true] at hc
          have c1 := Nat.le_of_ble_eq_true hc.1
          have c2 := Nat.le_of_ble_eq_true hc.2.1
          simp only [room] at c1 c2
          have hn0 : 0 < n := by
            rcases Nat.eq_zero_or_pos n with h | h
            · subst h; simp at h0
            · exact h
          have hr := run_app_grow (P := Λ.P) (ty := b') (w := w) htt hu hti hzv (s := .slice none 0 0) rfl (src_nil (P := Λ.P) (size := ti.size)) hn2 (by omega) (by omega) (by simpa using c2)
          simp only [Nat.zero_add, List.nil_append] at hr
          have hge := grownCap_ge w n 0 e
          have hnew := grown_new (e := e) (z := zv) (cap := grownCap w n 0 e) hh hn1 (need := n) (sz := ti.size) hn2.2.1 hzs (pureL new) (fun h => h) hge
          obtain ⟨k1, k2⟩ := hrel_grow hh (hp0 := hp) (p := ⟨w.heap.size, 0, grownCap w n 0 e * ti.size, ti.size⟩) (fun _ _ h => h) rfl hnew
          exact turns_of (hval _ _ (by rw [rx]; exact hr)) k1 (by simp only [Rep]; exact ⟨_, _, addM_same, rfl, hge, by simp⟩) (addM_le hnone) k2
    | vsl ex k cs =>
      rw [hx] at hv rx
      cases ex with
      | false => simp at hv
      | true =>
        simp only at hv
        have rx0 := rx
        simp only [Rep] at rx
        have rx1 : ∃ ad olds, a.eval x = .slice (some ad) k k ∧ RepL Λ.fid m S w cs olds ∧ olds.length = cs.length ∧ (∀ (j : Nat) (u : Value), olds[j]? = some u → w.cell? (ad.add j) = some u) ∧ pureL cs = true := by
          rcases rx with ⟨bb, oo, c, ex, h1, h2, h3, h4, h5⟩ | ⟨ad, ex, rfl, rfl⟩
          · have hck : c = k := h2 (by trivial)
            subst hck
            obtain ⟨olds, g1, g2, g3⟩ := repAt_vals cs bb oo h5
            exact ⟨_, olds, ex, g1, g2, fun j u hj => by rw [add_mk]; exact g3 j u hj, h4⟩
          · exact ⟨ad, [], ex, by simp [RepL], rfl, fun j u hj => by simp at hj, rfl⟩
        obtain ⟨ad, olds, ex, g1, g2, g3, h4⟩ := rx1
        cases h0 : Nat.beq n 0 with
        | true =>
          rw [h0] at hv
          simp only [cond_true, Option.some.injEq, Prod.mk.injEq] at hv
          obtain ⟨rfl, rfl, rfl⟩ := hv
          have hn0 := Nat.eq_of_beq_eq_true h0
          subst hn0
          have hnews : news = [] := List.eq_nil_of_length_eq_zero (by rw [hn2.2.1]; simp)
          subst hnews
          have hf := hn2.2.2 w rfl 0 (Nat.le_refl _)
          have hl0 := hn2.1 w
          refine ⟨.value (a.eval x), a.eval x, w, m, S, ?_, .inl rfl, hh, rx0, MLe.refl, Fwd.refl⟩
          rw [hrun, ex]
          rcases hu with ⟨e', hu⟩ | hu <;>
            simp [Builtin.append_, run_underlying htt, run_underlying hu, Go.sizeOf, typeInfo, hti, hl0, hf, storeCells]
        | false =>
          rw [h0] at hv
          simp only [cond_false] at hv
          cases hc : (Nat.ble (k + n) room && (Nat.ble ((k + n) * ti.bytes) room && (Nat.beq cs.length (k * ti.size) && Nat.blt 0 ti.size))) with
          | false => rw [hc] at hv; cases hv
          | true =>
            rw [hc] at hv
            simp only [cond_true, Option.some.injEq, Prod.mk.injEq] at hv
            obtain ⟨rfl, rfl, rfl⟩ := hv
            simp only [Bool.and_eq_true] at hc
            have c1 := Nat.le_of_ble_eq_true hc.1
            have c2 := Nat.le_of_ble_eq_true hc.2.1
            have c3 := Nat.eq_of_beq_eq_true hc.2.2.1
            simp only [room] at c1 c2
            have hn0 : 0 < n := by
              rcases Nat.eq_zero_or_pos n with h | h
              · subst h; simp at h0
              · exact h
            have hso : Src Λ.P w ti.size k olds (.slice (some ad) k k) := src_slice (by omega) g3
            have hr := run_app_grow (P := Λ.P) (ty := b') (w := w) htt hu hti hzv rfl hso hn2 (by omega) c1 c2
            have hge := grownCap_ge w (k + n) k e
            have hnew := grown_new (e := e) (z := zv) (cap := grownCap w (k + n) k e) hh (repL_append g1 hn1) (need := k + n) (sz := ti.size) (by rw [List.length_append, g2, c3, hn2.2.1, Nat.add_mul]) hzs (pureL cs && pureL new)
              (fun h => by simp only [Bool.and_eq_true] at h; exact pureL_append h.1 h.2) hge
            obtain ⟨k1, k2⟩ := hrel_grow hh (hp0 := hp) (p := ⟨w.heap.size, 0, grownCap w (k + n) k e * ti.size, ti.size⟩) (fun _ _ h => h) rfl hnew
            exact turns_of (hval _ _ (by rw [ex]; exact hr)) k1 (by simp only [Rep]; exact ⟨_, _, addM_same, rfl, hge, by simp⟩) (addM_le hnone) k2
    | osl id o0 k =>
      rw [hx] at hv rx
      simp only at hv
      simp only [Rep] at rx
      obtain ⟨p, c, hm, ex, h1, h2⟩ := rx
      split at hv
      case h_2 => cases hv
      rename_i pu exb zz cs hg
      cases hc : (Nat.beq zz ti.size && (Nat.ble (k + n) room && (Nat.ble ((k + n) * ti.bytes) room && (Nat.ble (o0 + k * ti.size) cs.length && (Nat.blt 0 ti.size && oneCells new))))) with
      | false => rw [hc] at hv; cases hv
      | true =>
        rw [hc] at hv
        simp only [cond_true, Option.some.injEq, Prod.mk.injEq] at hv
        obtain ⟨rfl, rfl, rfl⟩ := hv
        simp only [Bool.and_eq_true] at hc
        have c0 := Nat.eq_of_beq_eq_true hc.1
        have c1 := Nat.le_of_ble_eq_true hc.2.1
        have c2 := Nat.le_of_ble_eq_true hc.2.2.1
        have c3 := Nat.le_of_ble_eq_true hc.2.2.2.1
        have c4 := hc.2.2.2.2.2
        simp only [room] at c1 c2
        obtain ⟨p', arr, t', g1, g2, g3, g4, g5, g6, g7, g8, g9, g10⟩ := hh.obj id _ _ hg hm
        rw [hm] at g1
        injection g1 with g1
        subst g1
        subst c0
        rw [g3] at h2
        have hsl : RepAt Λ.fid m S w (slice o0 (k * ti.size) cs) p.b (p.o + o0) := repAt_take _ _ _ _ (repAt_drop _ _ _ _ g7)
        obtain ⟨olds, f1, f2, f3⟩ := repAt_vals _ _ _ hsl
        have hsll : (slice o0 (k * ti.size) cs).length = k * ti.size := by simp only [slice, List.length_take, List.length_drop]; omega
        have hpl : (pu && pureL new) = true → pureL (slice o0 (k * ti.size) cs ++ new) = true := fun h => by
          simp only [Bool.and_eq_true] at h
          exact pureL_append (pureL_take' _ (pureL_drop _ _ (g8 h.1))) h.2
        by_cases hroom : k + n ≤ c
        · have hone := one_cells hn1 c4
          have hfit : p.o + o0 + k * ti.size + news.length ≤ arr.size := by
            rw [hn2.2.1]
            have : (k + n) * ti.size ≤ c * ti.size := Nat.mul_le_mul_right _ hroom
            rw [Nat.add_mul] at this
            omega
          have hr := run_app_room (P := Λ.P) (ty := b') (w := w) htt hu hti g2 hn2 hone hroom hfit
          have ho : ∀ m', MLe m m' → m' ct = some ⟨p.b, p.o + o0, c * ti.size, ti.size⟩ →
              ORel Λ m' S (w.setRow p.b (arr.toList.take (p.o + o0 + k * ti.size) ++ news ++ arr.toList.drop (p.o + o0 + k * ti.size + news.length)).toArray) ct
                (.cells true (pu && pureL new) false ti.size (slice o0 (k * ti.size) cs ++ new)) := by
            intro m' hle hi
            have hst : SameOn S w (w.setRow p.b (arr.toList.take (p.o + o0 + k * ti.size) ++ news ++ arr.toList.drop (p.o + o0 + k * ti.size + news.length)).toArray) := fun b hb => setRow_other w p.b b _ (fun e => g9 rfl (e ▸ hb))
            refine ⟨_, _, t', hi, setRow_heap w p.b arr _ t' _ g2, rfl, ?_, ?_, by simp, ?_, hpl, fun _ => g9 rfl, by simp⟩
            · show (slice o0 (k * ti.size) cs ++ new).length ≤ c * ti.size
              rw [List.length_append, hsll, ← hnl, hn2.2.1, ← Nat.add_mul]
              exact Nat.mul_le_mul_right _ hroom
            · show p.o + o0 + c * ti.size ≤ _
              rw [List.size_toArray, List.length_append, List.length_append, List.length_take, List.length_drop, Array.length_toList]
              omega
            · refine repAt_of _ (olds ++ news) _ (repL_append (repL_mono hle (fun _ h => h) hst _ _ f1) (repL_mono hle (fun _ h => h) hst _ _ hn1)) (fun j u hj => ?_)
              show World.cell? _ ⟨p.b, p.o + o0 + j, none⟩ = some u
              simp only [World.cell?, setRow_heap w p.b arr _ t' _ g2, Option.isSome_none, Bool.false_eq_true, if_false]
              rw [List.getElem?_toArray]
              have e1 : (arr.toList.take (p.o + o0 + k * ti.size)).length = p.o + o0 + k * ti.size := by rw [List.length_take, Array.length_toList]; omega
              by_cases hj1 : j < k * ti.size
              · rw [List.getElem?_append_left (by omega)] at hj
                rw [List.append_assoc, List.getElem?_append_left (by omega), List.getElem?_take_of_lt (by omega)]
                have := f3 j u hj
                simpa [World.cell?, g2] using this
              · rw [List.getElem?_append_right (by omega)] at hj
                have hjl := (List.getElem?_eq_some_iff.1 hj).1
                rw [List.append_assoc, List.getElem?_append_right (by omega), e1, List.getElem?_append_left (by omega), show p.o + o0 + j - (p.o + o0 + k * ti.size) = j - olds.length by omega]
                exact hj
          obtain ⟨k1, k2⟩ := hrel_room (p' := ⟨p.b, p.o + o0, c * ti.size, ti.size⟩) hh hg hm (g9 rfl) (one_setRow w p.b _) (fun r hr => by rw [g2] at hr; cases hr) rfl ho
          exact turns_of (hval _ _ (by rw [ex]; exact hr)) k1 (by simp only [Rep]; exact ⟨_, c, addM_same, rfl, hroom, by simp⟩) (addM_le hnone) k2
        · have hso : Src Λ.P w ti.size k olds (.slice (some ⟨p.b, p.o + o0, none⟩) k c) := src_slice (by omega) (fun j u hj => by rw [add_mk]; exact f3 j u hj)
          have hr := run_app_grow (P := Λ.P) (ty := b') (w := w) htt hu hti hzv rfl hso hn2 (by omega) c1 c2
          have hge := grownCap_ge w (k + n) c e
          have hnew := grown_new (e := e) (z := zv) (cap := grownCap w (k + n) c e) hh (repL_append f1 hn1) (need := k + n) (sz := ti.size) (by rw [List.length_append, f2, hsll, hn2.2.1, Nat.add_mul]) hzs (pu && pureL new) hpl hge
          obtain ⟨k1, k2⟩ := hrel_grow hh (hp0 := hdel hp id) (p := ⟨w.heap.size, 0, grownCap w (k + n) c e * ti.size, ti.size⟩) (fun i q h => by
            rw [hget_hdel] at h
            by_cases hi : id = i
            · simp [hi] at h
            · simpa only [hi, if_false] using h) rfl hnew
          exact turns_of (hval _ _ (by rw [ex]; exact hr)) k1 (by simp only [Rep]; exact ⟨_, _, addM_same, rfl, hge, by simp⟩) (addM_le hnone) k2
    | _ => rw [hx] at hv; simp at hv
end
end VE
end
section
namespace VE
open Go
section
variable {Λ : Link} {H : Hint} {m : Mp} {S : Nat → Prop} {w : World} {tm : Env} {a : Act} {hp : Hp} {ct : Nat}
theorem pureL_takeN {n : Nat} {cs : List AV} (h : pureL cs = true) : pureL (cs.take n) = true := pureL_take' n h
theorem oneCells_take : ∀ (n : Nat) {cs : List AV}, oneCells cs = true → oneCells (cs.take n) = true
  | 0, _, _ => by simp [oneCells]
  | n + 1, [], _ => by simp [oneCells]
  | n + 1, c :: cs, h => by
    simp only [List.take_succ_cons, oneCells, Bool.and_eq_true] at h ⊢
    exact ⟨h.1, oneCells_take n h.2⟩
theorem turn_cpy {o : Oper} {b' : TypeId} {t u e : TypeId} {sz : Nat} {x y : Operand} {v : AV} {hp' : Hp} {ct' : Nat} (hH : HintOk Λ H) (ht : TRel Λ m S w tm a.tmps) (hh : HRel Λ m S w hp ct)
    (hrun : (execOp a.eval o).run Λ.P w = ((do pure (.value (← Builtin.copy_ #[t, u] b' #[a.eval x, a.eval y])) : Sem Next)).run Λ.P w)
    (htt : Λ.P.underlying t = some (.slice e)) (hs : szT Λ.P e = some sz)
    (hv : evWrite tm hp ct (.cpy sz (opX H x) (opX H y)) = some (v, hp', ct')) : Turns Λ m S w a hp ct o v hp' ct' := by
  simp only [evWrite] at hv
  cases hsrc : cellsAt hp sz (xget tm (opX H y)) with
  | none => simp [hsrc] at hv
  | some q =>
    obtain ⟨n, new⟩ := q
    simp only [hsrc] at hv
    obtain ⟨news, hn1, hn2⟩ := cellsAt_ok hh (rep_x hH ht y) hsrc
    have hnl := repL_len _ _ hn1
    have rx := rep_x hH ht x
    cases hx : xget tm (opX H x) <;> rw [hx] at hv rx <;> simp only [reduceCtorEq] at hv
    rename_i id o0 k
    simp only [Rep] at rx
    obtain ⟨p, c, hm, ex, h1, h2⟩ := rx
    split at hv
    case h_2 => cases hv
    rename_i pu exb zz cs hg
    cases hc : (Nat.beq zz sz && (Nat.ble (o0 + k * sz) cs.length && oneCells new)) with
    | false => rw [hc] at hv; cases hv
    | true =>
      rw [hc] at hv
      simp only [cond_true, Option.some.injEq, Prod.mk.injEq] at hv
      obtain ⟨rfl, rfl, rfl⟩ := hv
      simp only [Bool.and_eq_true] at hc
      have c0 := Nat.eq_of_beq_eq_true hc.1
      have c1 := Nat.le_of_ble_eq_true hc.2.1
      subst c0
      obtain ⟨p', arr, t', g1, g2, g3, g4, g5, g6, g7, g8, g9, g10⟩ := hh.obj id _ _ hg hm
      rw [hm] at g1
      injection g1 with g1
      subst g1
      have hmin : min n k * zz ≤ k * zz := Nat.mul_le_mul_right _ (Nat.min_le_right _ _)
      have hminn : min n k * zz ≤ n * zz := Nat.mul_le_mul_right _ (Nat.min_le_left _ _)
      have rt := repL_take (min n k * zz) hn1
      have hll : (news.take (min n k * zz)).length = min n k * zz := by rw [List.length_take, hn2.2.1]; omega
      have hll' : (new.take (min n k * zz)).length = min n k * zz := by rw [List.length_take, ← hnl, hn2.2.1]; omega
      have hone := one_cells rt (oneCells_take _ hc.2.2)
      have hf := hn2.2.2 w rfl (min n k) (Nat.min_le_left _ _)
      have hst := run_storeCells_at Λ.P p.b (p.o + o0) t' (news.take (min n k * zz)) 0 arr w g2 (by rw [hll]; omega) hone
      simp only [Nat.add_zero] at hst
      have hor : ORel Λ m S (w.setRow p.b (arr.toList.take (p.o + o0) ++ news.take (min n k * zz) ++ arr.toList.drop (p.o + o0 + (news.take (min n k * zz)).length)).toArray) id
          (.cells true (pu && pureL new) exb zz (over o0 (new.take (min n k * zz)) cs)) := by
        refine ⟨p, _, t', hm, setRow_heap w p.b arr _ t' _ g2, g3, by rw [over_len (by omega)]; exact g4, ?_, fun h => by rw [over_len (by omega)]; exact g6 h, ?_, ?_, fun _ => g9 rfl, by simp⟩
        · rw [List.size_toArray, List.length_append, List.length_append, List.length_take, List.length_drop, Array.length_toList, hll]; omega
        · exact row_over g2 g7 rt (by omega) (by omega) MLe.refl (fun _ h => h) (fun b hb => setRow_other w p.b b _ (fun e => g9 rfl (e ▸ hb))) (setRow_heap w p.b arr _ t' _ g2)
        · intro h
          simp only [Bool.and_eq_true] at h
          exact pureL_over (g8 h.1) (pureL_takeN h.2)
      obtain ⟨e1, e2⟩ := hrel_set hh hg hm (g9 rfl) (one_setRow w p.b _) hor (fun r hr => by rw [g2] at hr; cases hr)
      refine turns_of (u := goInt ((min n k : Nat) : Int)) (m' := m) (S' := S) ?_ e1 (by simp [Rep, goInt]) MLe.refl e2
      rw [hrun, ex]
      simp [Builtin.copy_, run_underlying htt, hn2.1 w, run_sizeOf' hs, show Nat.min n k = min n k from rfl, hf, hst]
theorem turn_ok {o : Oper} {k : Nat} {v : AV} {hp' : Hp} {ct' : Nat} (hH : HintOk Λ H) (ht : TRel Λ m S w tm a.tmps) (hh : HRel Λ m S w hp ct)
    (hv : evWrite tm hp ct (compOp Λ.P H k o) = some (v, hp', ct')) : Turns Λ m S w a hp ct o v hp' ct' := by
  have badW : ∀ {r : AV × Hp × Nat}, evWrite tm hp ct bad = some r → False := fun h => by simp [bad, evWrite] at h
  cases ho : o.op with
  | call c =>
    obtain ⟨callee, args, ts⟩ := c
    simp only [compOp, ho] at hv
    split at hv
    · cases hmd : H.mode k <;> simp [hmd, evWrite] at hv
    · rename_i _ b
      split at hv
      · rename_i x y t u hargs hts
        obtain ⟨al⟩ := args
        obtain ⟨tl⟩ := ts
        simp only at hargs hts
        subst hargs; subst hts
        obtain ⟨cs, hrun⟩ := run_builtin (Λ := Λ) (w := w) (a := a) ho
        have hrun' : (execOp a.eval o).run Λ.P w = ((do pure (.value (← Builtin.append_ #[t, u] o.type #[a.eval x, a.eval y])) : Sem Next)).run Λ.P w := by
          rw [hrun]; simp [builtin]
        have key : ∀ {z : AV} {sz by' : Nat} {e : TypeId}, Λ.P.underlying t = some (.slice e) → ((∃ e', Λ.P.underlying u = some (.slice e')) ∨ Λ.P.underlying u = some .string) → szT Λ.P e = some sz → byT Λ.P e = some by' → zeroT Λ.P e = some z →
            evWrite tm hp ct (bif Nat.beq (cellsOf z).length sz then .app sz by' (opX H x) (opX H y) else bad) = some (v, hp', ct') → Turns Λ m S w a hp ct o v hp' ct' := by
          intro z sz by' e h1 h2 h3 h4 h5 h
          cases hb : Nat.beq (cellsOf z).length sz with
          | false => rw [hb] at h; exact (badW h).elim
          | true =>
            rw [hb] at h
            exact turn_app hH ht hh hrun' h1 h2 h3 h4 h5 (Nat.eq_of_beq_eq_true hb) h
        split at hv
        · rename_i e e' h1 h2
          split at hv
          · rename_i sz by' z h3 h4 h5
            exact key h1 (.inl ⟨_, h2⟩) h3 h4 h5 hv
          · exact (badW hv).elim
        · rename_i e h1 h2
          split at hv
          · rename_i sz by' z h3 h4 h5
            exact key h1 (.inr h2) h3 h4 h5 hv
          · exact (badW hv).elim
        · exact (badW hv).elim
      · repeat' split at hv
        all_goals simp [evWrite, bad] at hv
      · rename_i x y t u hargs hts
        obtain ⟨al⟩ := args
        obtain ⟨tl⟩ := ts
        simp only at hargs hts
        subst hargs; subst hts
        obtain ⟨cs, hrun⟩ := run_builtin (Λ := Λ) (w := w) (a := a) ho
        have hrun' : (execOp a.eval o).run Λ.P w = ((do pure (.value (← Builtin.copy_ #[t, u] o.type #[a.eval x, a.eval y])) : Sem Next)).run Λ.P w := by
          rw [hrun]; simp [builtin]
        split at hv
        · rename_i e h1
          split at hv
          · rename_i sz h3
            exact turn_cpy hH ht hh hrun' h1 h3 hv
          · exact (badW hv).elim
        · exact (badW hv).elim
      · simp [evWrite] at hv
      · simp [evWrite] at hv
      · exact (badW hv).elim
    · exact (badW hv).elim
  | store t x y =>
    simp only [compOp, ho] at hv
    split at hv
    · rename_i s hs
      exact turn_st hH ht hh ho hs hv
    · exact (badW hv).elim
  | mapUpdate t x k y =>
    simp only [compOp, ho] at hv
    split at hv
    · rename_i kt e hu
      split at hv
      · rename_i kk hkk
        exact turn_mup hH ht hh (.inl ho) hu hkk hv
      · exact (badW hv).elim
    · exact (badW hv).elim
  | insert t x k y =>
    simp only [compOp, ho] at hv
    split at hv
    · rename_i kt e hu
      split at hv
      · rename_i kk hkk
        exact turn_mup hH ht hh (.inr ho) hu hkk hv
      · exact (badW hv).elim
    · exact (badW hv).elim
  | next x b =>
    cases b with
    | false => simp only [compOp, ho] at hv; exact (badW hv).elim
    | true => exact turn_nxt hH ht hh ho (by simpa only [compOp, ho] using hv)
  | binOp op t x y ty =>
    cases op <;> simp only [compOp, ho, compEq, compAgg] at hv
    case eql => repeat' split at hv
                all_goals first
                  | (simp [evWrite, bad] at hv; done)
                  | (cases hb : (Λ.P.stoodInHeld t || Λ.P.eqGuardType Λ.P.depth t) <;> rw [hb] at hv <;> simp [evWrite, bad] at hv)
    case neq => repeat' split at hv
                all_goals first
                  | (simp [evWrite, bad] at hv; done)
                  | (cases hb : (Λ.P.stoodInHeld t || Λ.P.eqGuardType Λ.P.depth t) <;> rw [hb] at hv <;> simp [evWrite, bad] at hv)
    all_goals simp [evWrite] at hv
  | buildSlice t n parts =>
    simp only [compOp, ho] at hv
    repeat' split at hv
    all_goals first
      | (simp [evWrite, bad] at hv; done)
      | (revert hv; generalize Nat.ble _ _ = bb; intro hv; cases bb <;> simp [evWrite, bad] at hv
         try (split at hv <;> simp [evWrite, bad] at hv))
  | makeMap t r =>
    cases r <;> simp only [compOp, ho] at hv
    · repeat' split at hv
      all_goals simp [evWrite, bad] at hv
    · exact (badW hv).elim
  | _ =>
    simp only [compOp, ho] at hv
    (repeat' split at hv)
    all_goals first
      | contradiction
      | (simp [evWrite, bad] at hv; done)
end
end VE
end
section
namespace VE
section
variable {hp H : Hp} {tm tm' : Env}
theorem hle_get (hl : HLe hp H) {id : Nat} {rw pu ex : Bool} {sz : Nat} {cs : List AV} (h : hget hp id = some (.cells rw pu ex sz cs)) : ∃ rw', hget H id = some (.cells rw' pu ex sz cs) := by
  obtain ⟨o', h1, rw', rfl, _⟩ := hl id _ h
  exact ⟨rw', h1⟩
theorem hle_map (hl : HLe hp H) {id : Nat} {rw : Bool} {ks vs : List AV} (h : hget hp id = some (.mp rw ks vs)) : ∃ rw', hget H id = some (.mp rw' ks vs) := by
  obtain ⟨o', h1, rw', rfl, _⟩ := hl id _ h
  exact ⟨rw', h1⟩
theorem ldOp_le (hl : HLe hp H) {sz : Nat} {ag : Bool} {x v : AV} (h : ldOp hp sz ag x = some v) : ldOp H sz ag x = some v := by
  cases x <;> simp only [ldOp, reduceCtorEq] at h ⊢
  · rename_i id o
    cases hg : hget hp id with
    | none => simp [hg] at h
    | some ob =>
      cases ob <;> simp only [hg, reduceCtorEq] at h
      obtain ⟨r, h1⟩ := hle_get hl hg
      simp only [h1]; exact h
  · exact h
theorem lkpOp_le (hl : HLe hp H) {k x : AV} {v : Option AV} (h : lkpOp hp k x = some v) : lkpOp H k x = some v := by
  cases x <;> simp only [lkpOp, reduceCtorEq] at h ⊢
  · exact h
  · rename_i id
    cases hg : hget hp id with
    | none => simp [hg] at h
    | some ob =>
      cases ob <;> simp only [hg, reduceCtorEq] at h
      obtain ⟨r, h1⟩ := hle_map hl hg
      simp only [h1]; exact h
  · exact h
theorem lenOp_le (hl : HLe hp H) {k : Nat} {x v : AV} (h : lenOp hp k x = some v) : lenOp H k x = some v := by
  unfold lenOp at h ⊢
  split at h
  all_goals first
    | exact h
    | cases h
    | skip
  rename_i id
  cases hg : hget hp id with
  | none => simp [hg] at h
  | some ob =>
    cases ob <;> simp only [hg, reduceCtorEq] at h
    obtain ⟨r, h1⟩ := hle_map hl hg
    simp only [h1]; exact h
theorem cutOp_le (hl : HLe hp H) {k : Cut} {x v : AV} {lo hi : Option X} (h : cutOp hp k x tm lo hi = some v) : cutOp H k x tm lo hi = some v := by
  unfold cutOp at h ⊢
  split at h
  all_goals first
    | exact h
    | cases h
    | skip
  rename_i sz id o n
  cases hg : hget hp id with
  | none => simp [hg] at h
  | some ob =>
    cases ob <;> simp only [hg, reduceCtorEq] at h
    obtain ⟨r, h1⟩ := hle_get hl hg
    simp only [h1]; exact h
theorem evRead_le (hl : HLe hp H) {o : Op} {v : AV} (h : evRead tm hp o = some v) : evRead tm H o = some v := by
  cases o <;> simp only [evRead, reduceCtorEq] at h ⊢ <;> first
    | exact h
    | exact ldOp_le hl h
    | exact lenOp_le hl h
    | exact cutOp_le hl h
    | skip
  rename_i kk zero ok m k
  cases hk : keyKind kk (xget tm k) with
  | false => rw [hk] at h; cases h
  | true =>
    rw [hk] at h
    simp only [cond_true] at h ⊢
    cases hr : lkpOp hp (xget tm k) (xget tm m) with
    | none => simp [hr] at h
    | some r => rw [lkpOp_le hl hr]; simpa only [hr] using h
theorem evRead_tm {o : Op} (hk : kindOp o = 0) (hp H : Hp) : evRead tm hp o = evRead tm H o := by
  cases o with
  | sli k x lo hi =>
    cases k with
    | str => simp only [evRead, cutOp]; cases xget tm x <;> rfl
    | sl sz => simp [kindOp] at hk
    | ar n sz => simp [kindOp] at hk
  | len k x =>
    match k, hk with
    | 0, _ => simp only [evRead]; unfold lenOp; split <;> simp_all
    | 1, _ => simp only [evRead]; unfold lenOp; split <;> simp_all
    | k + 2, hk => simp [kindOp] at hk
  | call md f xs => cases md <;> simp [kindOp] at hk
  | _ => first
    | rfl
    | simp [kindOp] at hk
end
section
variable {tm tm' : Env}
theorem xget_uses {x : X} (h : ∀ t, t ∈ usesX x → tget tm' t = tget tm t) : xget tm' x = xget tm x := by
  cases x with
  | t i => exact h i (by simp [usesX])
  | c v => rfl
theorem xgets_uses : ∀ {xs : List X}, (∀ t, t ∈ usesXs xs → tget tm' t = tget tm t) → xgets tm' xs = xgets tm xs
  | [], _ => rfl
  | x :: r, h => by
    simp only [xgets]
    rw [xget_uses (x := x) (fun t ht => h t (by simp [usesXs, ht])), xgets_uses (fun t ht => h t (by simp [usesXs, ht]))]
theorem fill_uses : ∀ {ps : List (Nat × Nat × X)} {z : List AV}, (∀ t, t ∈ usesP ps → tget tm' t = tget tm t) → fill tm' z ps = fill tm z ps
  | [], _, _ => rfl
  | (o, s, x) :: r, z, h => by
    simp only [fill]
    rw [xget_uses (x := x) (fun t ht => h t (by simp [usesP, ht]))]
    rw [fill_uses (ps := r) (fun t ht => h t (by simp [usesP, ht]))]
theorem bound_uses {d : Nat} {x : Option X} (h : ∀ t, t ∈ usesO x → tget tm' t = tget tm t) : bound tm' d x = bound tm d x := by
  cases x with
  | none => rfl
  | some x => simp only [bound]; rw [xget_uses h]
theorem cutOp_uses {hp : Hp} {k : Cut} {x : AV} {lo hi : Option X} (h1 : ∀ t, t ∈ usesO lo → tget tm' t = tget tm t) (h2 : ∀ t, t ∈ usesO hi → tget tm' t = tget tm t) :
    cutOp hp k x tm' lo hi = cutOp hp k x tm lo hi := by
  unfold cutOp
  simp only [bound_uses h1, bound_uses h2]
theorem evRead_uses {hp : Hp} {o : Op} (h : ∀ t, t ∈ usesOp o → tget tm' t = tget tm t) : evRead tm' hp o = evRead tm hp o := by
  cases o <;> simp only [usesOp, List.mem_append] at h <;> simp only [evRead]
  case pick c a b => rw [xget_uses (x := c) fun t ht => h t (.inl ht), xget_uses (x := a) fun t ht => h t (.inr (.inl ht)), xget_uses (x := b) fun t ht => h t (.inr (.inr ht))]
  case mkagg z ps => rw [fill_uses h]
  case mkf f a b => rw [xgets_uses (xs := a) fun t ht => h t (.inl ht), xgets_uses (xs := b) fun t ht => h t (.inr ht)]
  case sli k x lo hi => rw [xget_uses (x := x) fun t ht => h t (.inl ht), cutOp_uses (fun t ht => h t (.inr (.inl ht))) (fun t ht => h t (.inr (.inr ht)))]
  case mn xs => rw [xgets_uses h]
  case mx xs => rw [xgets_uses h]
  case bin op x y => rw [xget_uses (x := x) fun t ht => h t (.inl ht), xget_uses (x := y) fun t ht => h t (.inr ht)]
  case eq n k x y => rw [xget_uses (x := x) fun t ht => h t (.inl ht), xget_uses (x := y) fun t ht => h t (.inr ht)]
  case ixa s x y => rw [xget_uses (x := x) fun t ht => h t (.inl ht), xget_uses (x := y) fun t ht => h t (.inr ht)]
  case ixp l s x y => rw [xget_uses (x := x) fun t ht => h t (.inl ht), xget_uses (x := y) fun t ht => h t (.inr ht)]
  case ixs x y => rw [xget_uses (x := x) fun t ht => h t (.inl ht), xget_uses (x := y) fun t ht => h t (.inr ht)]
  case ixv l s g x y => rw [xget_uses (x := x) fun t ht => h t (.inl ht), xget_uses (x := y) fun t ht => h t (.inr ht)]
  case lkp kk z ok x y => rw [xget_uses (x := x) fun t ht => h t (.inl ht), xget_uses (x := y) fun t ht => h t (.inr ht)]
  all_goals first
    | rfl
    | (rename_i x; rw [xget_uses (x := x) h])
theorem evMake_uses {hp hp' : Hp} {ct : Nat} {o : Op} (h : ∀ t, t ∈ usesOp o → tget tm' t = tget tm t) : evMake tm' hp' ct o = evMake tm hp ct o := by
  cases o <;> simp only [usesOp, List.mem_append] at h <;> simp only [evMake]
  case box s x => rw [xget_uses (x := x) h]
  case mksl n s z ps => rw [fill_uses h]
  case mks s b z x y => rw [xget_uses (x := x) fun t ht => h t (.inl ht), xget_uses (x := y) fun t ht => h t (.inr ht)]
  case rng x => rw [xget_uses (x := x) h]
theorem evWrite_uses {hp : Hp} {ct : Nat} {o : Op} (h : ∀ t, t ∈ usesOp o → tget tm' t = tget tm t) : evWrite tm' hp ct o = evWrite tm hp ct o := by
  cases o <;> simp only [usesOp, List.mem_append] at h <;> simp only [evWrite]
  case st s x y => rw [xget_uses (x := x) fun t ht => h t (.inl ht), xget_uses (x := y) fun t ht => h t (.inr ht)]
  case mup kk c a b => rw [xget_uses (x := c) fun t ht => h t (.inl ht), xget_uses (x := a) fun t ht => h t (.inr (.inl ht)), xget_uses (x := b) fun t ht => h t (.inr (.inr ht))]
  case nxt x => rw [xget_uses (x := x) h]
  case app s b x y => rw [xget_uses (x := x) fun t ht => h t (.inl ht), xget_uses (x := y) fun t ht => h t (.inr ht)]
  case cpy s x y => rw [xget_uses (x := x) fun t ht => h t (.inl ht), xget_uses (x := y) fun t ht => h t (.inr ht)]
end
end VE
end
