import Derived.ChangeSlices
import Derived.Test.YteioemjpepbdgaaGreatDoorMemo
set_option linter.all false
namespace VE
open Go
section
variable (P : Program)
def flatFields (self : TypeId → Bool) : List Field → Nat → Nat → Bool
  | [], o, n => Nat.beq o n
  | f :: r, o, n => Nat.beq f.offset o && (self f.type && flatFields self r (o + P.cellsOf f.type) n)
def flat : Nat → TypeId → Bool
  | 0, _ => false
  | n + 1, t =>
    match P.underlying t with
    | some .bool | some (.int _) | some (.float _) | some .string => Nat.beq (P.cellsOf t) 1
    | some (.slice e) => Nat.beq (P.cellsOf t) 1 && (Nat.blt 0 (P.cellsOf e) && flat n e)
    | some (.struct fs) => flatFields P (fun u => flat n u) fs.toList 0 (P.cellsOf t)
    | some (.array k e) => Nat.beq (P.cellsOf t) (k * P.cellsOf e) && flat n e
    | _ => false
def avs {H : Type} : Nat → TypeId → DataW H → List AV
  | 0, _, _ => []
  | n + 1, t, d =>
    match P.underlying t, d with
    | some .bool, .lit (.bool b) => [.bool b]
    | some (.int k), .lit (.int _ m) => [.int k m]
    | some (.float k), .lit (.float _ b) => [.flt k b]
    | some .string, .lit (.string s) => [.str (s.map UInt8.toNat)]
    | some (.slice _), .nil => [.nils]
    | some (.slice e), .slice elems spare => [.vsl spare.isEmpty elems.length (elems.flatMap fun x => avs n e x)]
    | some (.struct fs), .agg parts => (fs.toList.zip parts).flatMap fun x => avs n x.1.type x.2
    | some (.array _ e), .agg parts => parts.flatMap fun x => avs n e x
    | _, _ => []
end
section
variable {fid : Nat → Nat} {m : Mp} {S : Nat → Prop} {w : World}
theorem repAt_app : ∀ {a b : List AV} {blk o : Nat}, RepAt fid m S w a blk o → RepAt fid m S w b blk (o + a.length) → RepAt fid m S w (a ++ b) blk o
  | [], b, blk, o, _, h => by simpa using h
  | x :: a, b, blk, o, h1, h2 => by
    simp only [RepAt, List.cons_append] at h1 ⊢
    exact ⟨h1.1, repAt_app h1.2 (by rw [List.length_cons] at h2; rw [show o + 1 + a.length = o + (a.length + 1) by omega]; exact h2)⟩
theorem pureL_app' : ∀ {a b : List AV}, pureL a = true → pureL b = true → pureL (a ++ b) = true
  | [], _, _, h => h
  | x :: a, b, h1, h2 => by
    simp only [pureL, List.cons_append, Bool.and_eq_true] at h1 ⊢
    exact ⟨h1.1, pureL_app' h1.2 h2⟩
theorem repL_len' : ∀ {a : List AV} {us : List Value}, RepL fid m S w a us → a.length = us.length
  | [], us, h => by simp only [RepL] at h; subst h; rfl
  | x :: a, us, h => by
    simp only [RepL] at h
    obtain ⟨u, r, rfl, _, h2⟩ := h
    simp [repL_len' h2]
end
section
variable {H : Type} {enc : TypeId × Value → H} {P : Program} {w : World} {held : Bool} {fid : Nat → Nat} {m : Mp} {S : Nat → Prop}
theorem cell_mk {a : Addr} {i : Nat} {u : Value} (h : w.cell? (a.add i) = some u) : w.cell? ⟨a.block, a.off + i, none⟩ = some u ∧ (i = 0 → a.spot = none) := by
  by_cases hi : i = 0
  · subst hi
    have e : a.add 0 = a := by simp [Addr.add]
    rw [e] at h
    have hs : a.spot = none := by
      cases hq : a.spot with
      | none => rfl
      | some k =>
        unfold World.cell? at h
        split at h
        · simp [hq] at h
        all_goals simp_all
    obtain ⟨b, o, sp⟩ := a
    simp only at hs
    subst hs
    exact ⟨by simpa using h, fun _ => rfl⟩
  · have e : a.add i = ⟨a.block, a.off + i, none⟩ := by simp [Addr.add, hi]
    rw [e] at h
    exact ⟨h, fun h => (hi h).elim⟩
theorem add_block (a : Addr) (i : Nat) : (a.add i).block = a.block := by unfold Addr.add; split <;> rfl
theorem add_off (a : Addr) (i : Nat) : (a.add i).off = a.off + i := by unfold Addr.add; split <;> simp_all
theorem mapM_len' {α β : Type} {f : α → Option β} : ∀ {l : List α} {r : List β}, l.mapM f = some r → r.length = l.length
  | [], r, h => by simp only [List.mapM_nil, Option.pure_def, Option.some.injEq] at h; subst h; rfl
  | x :: l, r, h => by
    rw [List.mapM_cons] at h
    cases h1 : f x with
    | none => simp [h1] at h
    | some y =>
      cases h2 : l.mapM f with
      | none => simp [h1, h2] at h
      | some ys =>
        simp only [h1, h2, Option.bind_some, Option.bind_eq_bind, Option.pure_def, Option.some.injEq] at h
        subst h
        simp [mapM_len' h2]
theorem repAt_lt {c : AV} {l : List AV} {b o : Nat} (h : RepAt fid m S w (c :: l) b o) : b < w.heap.size := by
  simp only [RepAt] at h
  obtain ⟨⟨u, h1, _⟩, _⟩ := h
  unfold World.cell? at h1
  cases hq : w.heap[b]? with
  | none => simp [hq] at h1
  | some o => exact (Array.getElem?_eq_some_iff.1 hq).1
theorem elems_rep {e : TypeId} {fuel sz : Nat} {f : DataW H → List AV} {a : Addr} (hsz : 0 < sz)
    (IH : ∀ (cs : List Value) (d : DataW H) (ps : List MemPlace), DataW.trod enc P w 0 (fun _ => true) held fuel e cs = some (d, ps) → RepL fid m S w (f d) cs ∧ pureL (f d) = true ∧ cs.length = sz) :
    ∀ (k j : Nat) (xs : List (DataW H × List MemPlace)), (List.range' j k).mapM (fun i => (w.cells? 0 (a.add (i * sz)) sz).bind (DataW.trod enc P w 0 (fun _ => true) held fuel e)) = some xs →
      RepAt fid m S w ((xs.map (·.1)).flatMap f) a.block (a.off + j * sz) ∧ pureL ((xs.map (·.1)).flatMap f) = true ∧ ((xs.map (·.1)).flatMap f).length = k * sz ∧ xs.length = k ∧ (0 < k → a.spot = none ∨ 0 < j)
  | 0, j, xs, h => by
    simp only [List.range'_zero, List.mapM_nil, Option.pure_def, Option.some.injEq] at h
    subst h
    simp [RepAt, pureL]
  | k + 1, j, xs, h => by
    rw [List.range'_succ, List.mapM_cons] at h
    cases h1 : (w.cells? 0 (a.add (j * sz)) sz) with
    | none => simp [h1] at h
    | some us =>
      cases h2 : DataW.trod enc P w 0 (fun _ => true) held fuel e us with
      | none => simp [h1, h2] at h
      | some x =>
        cases h3 : (List.range' (j + 1) k).mapM (fun i => (w.cells? 0 (a.add (i * sz)) sz).bind (DataW.trod enc P w 0 (fun _ => true) held fuel e)) with
        | none => simp [h1, h2, h3] at h
        | some ys =>
          simp only [h1, h2, h3, Option.bind_some, Option.bind_eq_bind, Option.pure_def, Option.some.injEq] at h
          subst h
          obtain ⟨d, ps⟩ := x
          obtain ⟨g1, g2, g3⟩ := IH us d ps h2
          obtain ⟨k1, k2, k3, k4, _⟩ := elems_rep hsz IH k (j + 1) ys h3
          obtain ⟨_, c2, c3⟩ := World.cells?_some h1
          have hl : (f d).length = sz := by rw [repL_len' g1, g3]
          have hc : ∀ (i : Nat) (u : Value), us[i]? = some u → w.cell? ⟨a.block, a.off + j * sz + i, none⟩ = some u := by
            intro i u hi
            have hil : i < sz := by have := (List.getElem?_eq_some_iff.1 hi).1; omega
            have h := c3 i hil
            rw [hi] at h
            have := (cell_mk h).1
            rwa [add_block, add_off] at this
          refine ⟨?_, ?_, ?_, by simp [k4], ?_⟩
          · simp only [List.map_cons, List.flatMap_cons]
            refine repAt_app (repAt_of _ us _ g1 hc) ?_
            rw [hl, show a.off + j * sz + sz = a.off + (j + 1) * sz by rw [Nat.add_mul]; omega]
            exact k1
          · simp only [List.map_cons, List.flatMap_cons]
            exact pureL_app' g2 k2
          · simp only [List.map_cons, List.flatMap_cons, List.length_append, hl, k3, Nat.add_mul]; omega
          · intro _
            rcases Nat.eq_zero_or_pos j with hj | hj
            · left
              have h := c3 0 hsz
              have hlt : 0 < us.length := by omega
              have hu : us[0]? = some us[0] := by simp [hlt]
              rw [hu] at h
              have := (cell_mk h).2 rfl
              subst hj
              simpa [Addr.add] using this
            · exact .inr hj
theorem fields_rep {fuel N : Nat} {n : Nat} {cs : List Value} (hN : cs.length = N)
    (IH : ∀ (t : TypeId) (cs : List Value) (d : DataW H) (ps : List MemPlace), flat P n t = true → DataW.trod enc P w 0 (fun _ => true) held fuel t cs = some (d, ps) → RepL fid m S w (avs P n t d) cs ∧ pureL (avs P n t d) = true ∧ cs.length = P.cellsOf t) :
    ∀ (r : List Field) (o : Nat) (xs : List (DataW H × List MemPlace)), flatFields P (fun u => flat P n u) r o N = true → r.mapM (fun f => DataW.trod enc P w 0 (fun _ => true) held fuel f.type ((cs.drop f.offset).take (P.cellsOf f.type))) = some xs →
      RepL fid m S w ((r.zip (xs.map (·.1))).flatMap fun x => avs P n x.1.type x.2) (cs.drop o) ∧ pureL ((r.zip (xs.map (·.1))).flatMap fun x => avs P n x.1.type x.2) = true
  | [], o, xs, hf, h => by
    simp only [List.mapM_nil, Option.pure_def, Option.some.injEq] at h
    subst h
    simp only [flatFields] at hf
    have := Nat.eq_of_beq_eq_true hf
    rw [List.drop_eq_nil_of_le (by omega)]
    simp [RepL, pureL]
  | f :: r, o, xs, hf, h => by
    simp only [flatFields, Bool.and_eq_true] at hf
    obtain ⟨e1, e2, e3⟩ := hf
    have e1 := Nat.eq_of_beq_eq_true e1
    rw [List.mapM_cons] at h
    cases h2 : DataW.trod enc P w 0 (fun _ => true) held fuel f.type ((cs.drop f.offset).take (P.cellsOf f.type)) with
    | none => simp [h2] at h
    | some x =>
      cases h3 : r.mapM (fun f => DataW.trod enc P w 0 (fun _ => true) held fuel f.type ((cs.drop f.offset).take (P.cellsOf f.type))) with
      | none => simp [h2, h3] at h
      | some ys =>
        simp only [h2, h3, Option.bind_some, Option.bind_eq_bind, Option.pure_def, Option.some.injEq] at h
        subst h
        obtain ⟨d, ps⟩ := x
        obtain ⟨g1, g2, g3⟩ := IH f.type _ d ps e2 h2
        obtain ⟨k1, k2⟩ := fields_rep hN IH r _ ys e3 h3
        rw [e1] at g1
        have e : cs.drop o = (cs.drop o).take (P.cellsOf f.type) ++ cs.drop (o + P.cellsOf f.type) := by rw [← List.drop_drop]; exact (List.take_append_drop _ _).symm
        simp only [List.map_cons, List.zip_cons_cons, List.flatMap_cons]
        rw [e]
        exact ⟨repL_append g1 k1, pureL_app' g2 k2⟩
theorem arr_rep {fuel sz : Nat} {e : TypeId} {f : DataW H → List AV} {cs : List Value}
    (IH : ∀ (cs : List Value) (d : DataW H) (ps : List MemPlace), DataW.trod enc P w 0 (fun _ => true) held fuel e cs = some (d, ps) → RepL fid m S w (f d) cs ∧ pureL (f d) = true ∧ cs.length = sz) :
    ∀ (k j : Nat) (xs : List (DataW H × List MemPlace)), (List.range' j k).mapM (fun i => DataW.trod enc P w 0 (fun _ => true) held fuel e ((cs.drop (i * sz)).take sz)) = some xs → cs.length = (j + k) * sz →
      RepL fid m S w ((xs.map (·.1)).flatMap f) (cs.drop (j * sz)) ∧ pureL ((xs.map (·.1)).flatMap f) = true
  | 0, j, xs, h, hl => by
    simp only [List.range'_zero, List.mapM_nil, Option.pure_def, Option.some.injEq] at h
    subst h
    rw [List.drop_eq_nil_of_le (by rw [hl]; simp)]
    simp [RepL, pureL]
  | k + 1, j, xs, h, hl => by
    rw [List.range'_succ, List.mapM_cons] at h
    cases h2 : DataW.trod enc P w 0 (fun _ => true) held fuel e ((cs.drop (j * sz)).take sz) with
    | none => simp [h2] at h
    | some x =>
      cases h3 : (List.range' (j + 1) k).mapM (fun i => DataW.trod enc P w 0 (fun _ => true) held fuel e ((cs.drop (i * sz)).take sz)) with
      | none => simp [h2, h3] at h
      | some ys =>
        simp only [h2, h3, Option.bind_some, Option.bind_eq_bind, Option.pure_def, Option.some.injEq] at h
        subst h
        obtain ⟨d, ps⟩ := x
        obtain ⟨g1, g2, g3⟩ := IH _ d ps h2
        obtain ⟨k1, k2⟩ := arr_rep IH k (j + 1) ys h3 (by rw [hl]; congr 1; omega)
        have e : cs.drop (j * sz) = (cs.drop (j * sz)).take sz ++ cs.drop ((j + 1) * sz) := by rw [Nat.add_mul, Nat.one_mul, ← List.drop_drop]; exact (List.take_append_drop _ _).symm
        simp only [List.map_cons, List.flatMap_cons]
        rw [e]
        exact ⟨repL_append g1 k1, pureL_app' g2 k2⟩
theorem trod_rep (hS : ∀ b, b < w.heap.size → S b) : ∀ (n fuel : Nat) (t : TypeId) (cs : List Value) (d : DataW H) (ps : List MemPlace), flat P n t = true → DataW.trod enc P w 0 (fun _ => true) held fuel t cs = some (d, ps) →
    RepL fid m S w (avs P n t d) cs ∧ pureL (avs P n t d) = true ∧ cs.length = P.cellsOf t
  | 0, fuel, t, cs, d, ps, hf, h => by simp [flat] at hf
  | n + 1, 0, t, cs, d, ps, hf, h => by simp [DataW.trod] at h
  | n + 1, fuel + 1, t, cs, d, ps, hf, h => by
    have IH := trod_rep hS n fuel
    unfold DataW.trod at h
    simp only [flat] at hf
    split at h
    · rename_i hu
      simp only [hu] at hf
      simp only [Option.some.injEq, Prod.mk.injEq] at h
      obtain ⟨rfl, rfl⟩ := h
      simp only [avs, hu]
      exact ⟨by simp [RepL, Rep], by simp [pureL, pureAV], by rw [Nat.eq_of_beq_eq_true hf]; rfl⟩
    · rename_i hu
      simp only [hu] at hf
      split at h
      · rename_i hk
        simp only [Option.some.injEq, Prod.mk.injEq] at h
        obtain ⟨rfl, rfl⟩ := h
        simp only [avs, hu]
        refine ⟨?_, by simp [pureL, pureAV], by rw [Nat.eq_of_beq_eq_true hf]; rfl⟩
        rw [hk.1]
        simp [RepL, Rep]
      · cases h
    · rename_i hu
      simp only [hu] at hf
      split at h
      · rename_i hk
        simp only [Option.some.injEq, Prod.mk.injEq] at h
        obtain ⟨rfl, rfl⟩ := h
        simp only [avs, hu]
        refine ⟨?_, by simp [pureL, pureAV], by rw [Nat.eq_of_beq_eq_true hf]; rfl⟩
        rw [hk.1]
        simp [RepL, Rep]
      · cases h
    · rename_i hu
      simp only [hu] at hf
      split at h
      · simp only [Option.some.injEq, Prod.mk.injEq] at h
        obtain ⟨rfl, rfl⟩ := h
        simp only [avs, hu]
        refine ⟨?_, by simp [pureL, pureAV], by rw [Nat.eq_of_beq_eq_true hf]; rfl⟩
        simp only [RepL, Rep]
        exact ⟨_, _, rfl, ⟨_, rfl, rfl⟩, rfl⟩
      · cases h
    · rename_i hu; simp [hu] at hf
    · rename_i hu; simp [hu] at hf
    · rename_i hu
      simp only [hu, Bool.and_eq_true] at hf
      simp only [Option.some.injEq, Prod.mk.injEq] at h
      obtain ⟨rfl, rfl⟩ := h
      simp only [avs, hu]
      exact ⟨by simp [RepL, Rep], by simp [pureL, pureAV], by rw [Nat.eq_of_beq_eq_true hf.1]; rfl⟩
    · rename_i e a len cap hu
      simp only [hu, Bool.and_eq_true] at hf
      obtain ⟨f1, f2, f3⟩ := hf
      have hsz := blt_iff.1 f2
      simp only at h
      split at h
      case isFalse => cases h
      rename_i hc
      simp only [if_true] at h
      cases h1 : (List.range len).mapM fun i => (w.cells? 0 (a.add (i * P.cellsOf e)) (P.cellsOf e)).bind (DataW.trod enc P w 0 (fun _ => true) held fuel e) with
      | none => rw [h1] at h; simp at h
      | some elems =>
        cases h2 : (List.range (cap - len)).mapM fun j => (w.cells? 0 (a.add ((len + j) * P.cellsOf e)) (P.cellsOf e)).bind (DataW.trod enc P w 0 (fun _ => true) held fuel e) with
        | none => rw [h1] at h; simp [h2] at h
        | some rest =>
          rw [h1] at h
          simp only [Option.bind_some, h2, Option.map_some, Option.some.injEq, Prod.mk.injEq] at h
          obtain ⟨rfl, rfl⟩ := h
          have hIH := fun cs d ps h => IH e cs d ps f3 h
          rw [List.range_eq_range'] at h1 h2
          obtain ⟨k1, k2, k3, k4, k5⟩ := elems_rep (fid := fid) (m := m) (S := S) hsz hIH len 0 elems h1
          have hrl : rest.length = cap - len := by rw [mapM_len' h2]; simp
          have hsp : cap ≠ 0 → a.spot = none := by
            intro hcap
            rcases Nat.eq_zero_or_pos len with h0 | h0
            · subst h0
              simp only [Nat.zero_add, Nat.sub_zero] at h2
              obtain ⟨_, _, _, _, q5⟩ := elems_rep (fid := fid) (m := m) (S := S) hsz hIH cap 0 rest h2
              exact (q5 (by omega)).resolve_right (by omega)
            · exact (k5 h0).resolve_right (by omega)
          simp only [avs, hu, List.length_map]
          refine ⟨?_, by simp [pureL, pureAV], by rw [Nat.eq_of_beq_eq_true f1]; rfl⟩
          simp only [RepL]
          refine ⟨_, _, rfl, ?_, rfl⟩
          simp only [Rep]
          by_cases hcap : cap = 0
          · subst hcap
            have hl0 : len = 0 := by omega
            subst hl0
            have he : elems = [] := List.eq_nil_of_length_eq_zero k4
            subst he
            exact .inr ⟨a, rfl, rfl, rfl⟩
          · obtain ⟨b, o, sp⟩ := a
            have hsp := hsp hcap
            simp only at hsp
            subst hsp
            refine .inl ⟨b, o, cap, by rw [k4], by omega, fun hx => ?_, ?_, k2, by simpa using k1⟩
            · have : rest.length = 0 := by simpa using hx
              omega
            · generalize hg : ((elems.map (·.1)).flatMap fun x => avs P n e x) = l at k1
              cases l with
              | nil => exact .inl rfl
              | cons c l => exact .inr (hS b (repAt_lt k1))
    · rename_i cs1 x1 cs2 fs hu
      simp only [hu] at hf
      split at h
      case isFalse => cases h
      rename_i hlen
      cases h1 : fs.toList.mapM fun f => DataW.trod enc P w 0 (fun _ => true) held fuel f.type ((cs1.drop f.offset).take (P.cellsOf f.type)) with
      | none => rw [h1] at h; simp at h
      | some xs =>
        rw [h1] at h
        simp only [Option.map_some, Option.some.injEq, Prod.mk.injEq] at h
        obtain ⟨rfl, rfl⟩ := h
        obtain ⟨k1, k2⟩ := fields_rep hlen (fun t cs d ps hf h => IH t cs d ps hf h) fs.toList 0 xs hf h1
        simp only [avs, hu]
        exact ⟨by simpa using k1, k2, hlen⟩
    · rename_i cs1 x1 cs2 k e hu
      simp only [hu, Bool.and_eq_true] at hf
      obtain ⟨f1, f2⟩ := hf
      have f1 := Nat.eq_of_beq_eq_true f1
      split at h
      case isFalse => cases h
      rename_i hlen
      cases h1 : (List.range k).mapM fun i => DataW.trod enc P w 0 (fun _ => true) held fuel e ((cs1.drop (i * P.cellsOf e)).take (P.cellsOf e)) with
      | none => rw [h1] at h; simp at h
      | some xs =>
        rw [h1] at h
        simp only [Option.map_some, Option.some.injEq, Prod.mk.injEq] at h
        obtain ⟨rfl, rfl⟩ := h
        rw [List.range_eq_range'] at h1
        obtain ⟨k1, k2⟩ := arr_rep (fid := fid) (m := m) (S := S) (fun cs d ps h => IH e cs d ps f2 h) k 0 xs h1 (by rw [hlen, f1]; simp)
        simp only [avs, hu]
        exact ⟨by simpa using k1, k2, hlen⟩
    all_goals first
      | (cases h; done)
      | (simp_all; done)
def argAV (P : Program) (n : Nat) (t : TypeId) (d : DataW H) : AV :=
  match P.underlying t with
  | some (.struct _) | some (.array _ _) => .agg (avs P n t d)
  | _ => (avs P n t d).headD .undef
theorem arg_rep (hS : ∀ b, b < w.heap.size → S b) {n base : Nat} {t : TypeId} {v : Value} {d : DataW H} {ps : List MemPlace} (hf : flat P n t = true) (h : DataW.Trod enc P w 0 (fun _ => true) held t v d ps)
    (hv : Value.okWide P w .any base t v) : Rep fid m S w (argAV P n t d) v ∧ pureAV (argAV P n t d) = true := by
  obtain ⟨fuel, h⟩ := h
  obtain ⟨h1, h2, h3⟩ := trod_rep (fid := fid) (m := m) hS n fuel t _ d ps hf h
  have one : v.cells = #[v] → (∀ fs, P.underlying t ≠ some (.struct fs)) → (∀ k e, P.underlying t ≠ some (.array k e)) → Rep fid m S w (argAV P n t d) v ∧ pureAV (argAV P n t d) = true := by
    intro hc hns hna
    have e : argAV P n t d = (avs P n t d).headD .undef := by
      unfold argAV
      split
      · rename_i fs hu; exact (hns fs hu).elim
      · rename_i k e hu; exact (hna k e hu).elim
      · rfl
    rw [e]
    rw [hc] at h1
    generalize avs P n t d = l at h1 h2
    cases l with
    | nil => simp [RepL] at h1
    | cons x l =>
      simp only [RepL] at h1
      obtain ⟨u, r, he, g1, g2⟩ := h1
      simp only [List.cons.injEq] at he
      simp only [pureL, Bool.and_eq_true] at h2
      rw [List.headD_cons, he.1]
      exact ⟨g1, h2.1⟩
  cases n with
  | zero => simp [flat] at hf
  | succ n =>
    unfold Value.okWide at hv
    simp only [flat] at hf
    cases hu : P.underlying t with
    | none => simp [hu] at hf
    | some ty =>
      rw [hu] at hv hf
      cases ty <;> simp only [Bool.false_eq_true] at hf hv
      case struct fs =>
        obtain ⟨cs, rfl, _, _⟩ := hv
        have e : argAV P (n + 1) t d = .agg (avs P (n + 1) t d) := by simp only [argAV, hu]
        rw [e]
        exact ⟨by simp only [Rep]; exact ⟨cs, rfl, h1⟩, by simpa only [pureAV] using h2⟩
      case array k e =>
        obtain ⟨cs, rfl, _, _⟩ := hv
        have e : argAV P (n + 1) t d = .agg (avs P (n + 1) t d) := by simp only [argAV, hu]
        rw [e]
        exact ⟨by simp only [Rep]; exact ⟨cs, rfl, h1⟩, by simpa only [pureAV] using h2⟩
      all_goals
        refine one ?_ (by simp [hu]) (by simp [hu])
        cases v with
        | agg cs => exfalso; simp only [Cell.okWide, Cell.ok, hu] at hv
        | _ => rfl
def argsAV (P : Program) (n : Nat) : List TypeId → List (DataW H) → List AV
  | t :: ts, d :: ds => argAV P n t d :: argsAV P n ts ds
  | _, _ => []
theorem args_rep (hS : ∀ b, b < w.heap.size → S b) {n base : Nat} : ∀ {ts : List TypeId} {vs : List Value} {ds : List (DataW H)} {ps : List MemPlace}, ts.all (flat P n) = true → DataW.TrodAll enc P w 0 (fun _ => true) held ts vs ds ps →
    (∀ (j : Nat) t v, ts[j]? = some t → vs[j]? = some v → Value.okWide P w .any base t v) → RepL fid m S w (argsAV P n ts ds) vs ∧ pureL (argsAV P n ts ds) = true
  | [], [], [], _, _, _, _ => by simp [argsAV, RepL, pureL]
  | t :: ts, v :: vs, d :: ds, ps, hf, h, hv => by
    simp only [List.all_cons, Bool.and_eq_true] at hf
    obtain ⟨p, q, h1, h2, _⟩ := h
    obtain ⟨a1, a2⟩ := arg_rep (fid := fid) (m := m) hS hf.1 h1 (hv 0 t v rfl rfl)
    obtain ⟨b1, b2⟩ := args_rep hS hf.2 h2 (fun j t v h1 h2 => hv (j + 1) t v h1 h2)
    simp only [argsAV, RepL, pureL, Bool.and_eq_true]
    exact ⟨⟨v, vs, rfl, a1, b1⟩, a2, b2⟩
  | [], _ :: _, _, _, _, h, _ => by simp [DataW.TrodAll] at h
  | [], [], _ :: _, _, _, h, _ => by simp [DataW.TrodAll] at h
  | _ :: _, [], _, _, _, h, _ => by simp [DataW.TrodAll] at h
  | _ :: _, _ :: _, [], _, _, h, _ => by simp [DataW.TrodAll] at h
end
end VE
