import Derived.ChangeReads
import Derived.Test.YteioemjpepbdgaaGreatDoorRow
set_option linter.all false
namespace VE
open Go
section
variable {H : Type} {enc : TypeId × Value → H} {P : Program} {w w' : World} {held : Bool} {sp : Nat → Bool}
theorem cell_again (hs : ∀ b, b < w.heap.size → w'.heap[b]? = w.heap[b]?) {a : Addr} {u : Value} (h : w.cell? a = some u) : w'.cell? a = some u := by
  have hb : a.block < w.heap.size := by
    unfold World.cell? at h
    cases hq : w.heap[a.block]? with
    | none => simp [hq] at h
    | some o => exact (Array.getElem?_eq_some_iff.1 hq).1
  unfold World.cell? at h ⊢
  rw [hs _ hb]; exact h
theorem cells_again (hs : ∀ b, b < w.heap.size → w'.heap[b]? = w.heap[b]?) {base : Nat} {a : Addr} {n : Nat} {us : List Value} (h : w.cells? base a n = some us) : w'.cells? base a n = some us := by
  unfold World.cells? at h ⊢
  split at h
  · rename_i hb
    rw [if_pos hb]
    exact mapM_carry h (fun x y _ _ hx => cell_again hs hx)
  · cases h
theorem row_mem {a : Addr} {n : Nat} (h : 0 < n) : MemPlace.cell a.block (a.off + 0) ∈ MemPlace.row a n := by
  unfold MemPlace.row
  exact List.mem_map.2 ⟨0, List.mem_range.2 h, rfl⟩
theorem trod_again (hs : ∀ b, b < w.heap.size → w'.heap[b]? = w.heap[b]?) : ∀ (n fuel : Nat) (t : TypeId) (cs : List Value) (d : DataW H) (ps : List MemPlace), flat P n t = true → DataW.trod enc P w 0 (fun _ => true) held fuel t cs = some (d, ps) →
    (∀ p, p ∈ ps → sp p.block = true) → DataW.trod enc P w' 0 sp held fuel t cs = some (d, ps)
  | 0, fuel, t, cs, d, ps, hf, h, hp => by simp [flat] at hf
  | n + 1, 0, t, cs, d, ps, hf, h, hp => by simp [DataW.trod] at h
  | n + 1, fuel + 1, t, cs, d, ps, hf, h, hp => by
    have IH := trod_again hs n fuel
    have elem : ∀ {e : TypeId} {a : Addr} {y : DataW H × List MemPlace}, flat P n e = true → (w.cells? 0 a (P.cellsOf e)).bind (DataW.trod enc P w 0 (fun _ => true) held fuel e) = some y → (∀ p, p ∈ y.2 → sp p.block = true) →
        (w'.cells? 0 a (P.cellsOf e)).bind (DataW.trod enc P w' 0 sp held fuel e) = some y := by
      intro e a y he h hq
      cases h1 : w.cells? 0 a (P.cellsOf e) with
      | none => simp [h1] at h
      | some us =>
        rw [h1] at h
        rw [cells_again hs h1]
        simp only [Option.bind_some] at h ⊢
        obtain ⟨d, ps⟩ := y
        exact IH e us d ps he h hq
    unfold DataW.trod at h ⊢
    simp only [flat] at hf
    split at h
    · exact h
    · exact h
    · exact h
    · exact h
    · rename_i hu; simp [hu] at hf
    · rename_i hu; simp [hu] at hf
    · exact h
    · rename_i e a len cap hu
      simp only [hu, Bool.and_eq_true] at hf
      obtain ⟨f1, f2, f3⟩ := hf
      have hsz := blt_iff.1 f2
      simp only at h ⊢
      split at h
      case isFalse => cases h
      rename_i hc
      rw [if_pos hc]
      simp only [if_true] at h
      cases h1 : (List.range len).mapM fun i => (w.cells? 0 (a.add (i * P.cellsOf e)) (P.cellsOf e)).bind (DataW.trod enc P w 0 (fun _ => true) held fuel e) with
      | none => rw [h1] at h; simp at h
      | some elems =>
        cases h2 : (List.range (cap - len)).mapM fun j => (w.cells? 0 (a.add ((len + j) * P.cellsOf e)) (P.cellsOf e)).bind (DataW.trod enc P w 0 (fun _ => true) held fuel e) with
        | none => rw [h1] at h; simp [h2] at h
        | some rest =>
          rw [h1] at h
          simp only [Option.bind_some, h2, Option.map_some, Option.some.injEq, Prod.mk.injEq] at h
          obtain ⟨rfl, rfl⟩ := h
          have k1 : ((List.range len).mapM fun i => (w'.cells? 0 (a.add (i * P.cellsOf e)) (P.cellsOf e)).bind (DataW.trod enc P w' 0 sp held fuel e)) = some elems :=
            mapM_carry h1 (fun x y _ hy hx => elem f3 hx (fun p hq => hp p (List.mem_append_right _ (List.mem_flatMap.2 ⟨y, List.mem_append_left _ hy, hq⟩))))
          have k2 : ((List.range (cap - len)).mapM fun j => (w'.cells? 0 (a.add ((len + j) * P.cellsOf e)) (P.cellsOf e)).bind (DataW.trod enc P w' 0 sp held fuel e)) = some rest :=
            mapM_carry h2 (fun x y _ hy hx => elem f3 hx (fun p hq => hp p (List.mem_append_right _ (List.mem_flatMap.2 ⟨y, List.mem_append_right _ hy, hq⟩))))
          have hr : (if sp a.block = true then (List.range (cap - len)).mapM fun j => (w'.cells? 0 (a.add ((len + j) * P.cellsOf e)) (P.cellsOf e)).bind (DataW.trod enc P w' 0 sp held fuel e) else some []) = some rest := by
            by_cases hsp : sp a.block = true
            · rw [if_pos hsp]; exact k2
            · rw [if_neg hsp]
              have h0 : ¬ 0 < (elems.length + rest.length) * P.cellsOf e := fun h0 => hsp (hp _ (List.mem_append_left _ (row_mem h0)))
              have hz : elems.length + rest.length = 0 := by
                rcases Nat.eq_zero_or_pos (elems.length + rest.length) with h | h
                · exact h
                · exact (h0 (Nat.mul_pos h hsz)).elim
              have : rest = [] := List.eq_nil_of_length_eq_zero (by omega)
              rw [this]
          rw [k1]
          simp only [Option.bind_some]
          rw [hr]
          rfl
    · rename_i cs1 x1 cs2 fs hu
      simp only [hu] at hf
      split at h
      case isFalse => cases h
      rename_i hlen
      rw [if_pos hlen]
      cases h1 : fs.toList.mapM fun f => DataW.trod enc P w 0 (fun _ => true) held fuel f.type ((cs1.drop f.offset).take (P.cellsOf f.type)) with
      | none => rw [h1] at h; simp at h
      | some xs =>
        rw [h1] at h
        simp only [Option.map_some, Option.some.injEq, Prod.mk.injEq] at h
        obtain ⟨rfl, rfl⟩ := h
        have hfl : ∀ (r : List Field) (o : Nat), flatFields P (fun u => flat P n u) r o (P.cellsOf t) = true → ∀ f, f ∈ r → flat P n f.type = true := by
          intro r
          induction r with
          | nil => intro o _ f hm; cases hm
          | cons g r ih =>
            intro o hq f hm
            simp only [flatFields, Bool.and_eq_true] at hq
            rcases List.mem_cons.1 hm with rfl | hm
            · exact hq.2.1
            · exact ih _ hq.2.2 f hm
        have k1 : (fs.toList.mapM fun f => DataW.trod enc P w' 0 sp held fuel f.type ((cs1.drop f.offset).take (P.cellsOf f.type))) = some xs :=
          mapM_carry h1 (fun f y hm hy hx => IH _ _ y.1 y.2 (hfl _ _ hf f hm) hx (fun p hq => hp p (List.mem_flatMap.2 ⟨y, hy, hq⟩)))
        rw [k1]
        rfl
    · rename_i cs1 x1 cs2 k e hu
      simp only [hu, Bool.and_eq_true] at hf
      split at h
      case isFalse => cases h
      rename_i hlen
      rw [if_pos hlen]
      cases h1 : (List.range k).mapM fun i => DataW.trod enc P w 0 (fun _ => true) held fuel e ((cs1.drop (i * P.cellsOf e)).take (P.cellsOf e)) with
      | none => rw [h1] at h; simp at h
      | some xs =>
        rw [h1] at h
        simp only [Option.map_some, Option.some.injEq, Prod.mk.injEq] at h
        obtain ⟨rfl, rfl⟩ := h
        have k1 : ((List.range k).mapM fun i => DataW.trod enc P w' 0 sp held fuel e ((cs1.drop (i * P.cellsOf e)).take (P.cellsOf e))) = some xs :=
          mapM_carry h1 (fun i y _ hy hx => IH _ _ y.1 y.2 hf.2 hx (fun p hq => hp p (List.mem_flatMap.2 ⟨y, hy, hq⟩)))
        rw [k1]
        rfl
    all_goals first
      | (cases h; done)
      | (simp_all; done)
theorem trodAll_again (hs : ∀ b, b < w.heap.size → w'.heap[b]? = w.heap[b]?) {n : Nat} : ∀ {ts : List TypeId} {vs : List Value} {ds : List (DataW H)} {ps : List MemPlace}, ts.all (flat P n) = true → DataW.TrodAll enc P w 0 (fun _ => true) held ts vs ds ps →
    (∀ p, p ∈ ps → sp p.block = true) → DataW.TrodAll enc P w' 0 sp held ts vs ds ps
  | [], [], [], ps, _, h, _ => by simpa only [DataW.TrodAll] using h
  | t :: ts, v :: vs, d :: ds, ps, hf, h, hp => by
    simp only [List.all_cons, Bool.and_eq_true] at hf
    obtain ⟨p, q, ⟨fuel, h1⟩, h2, rfl⟩ := h
    exact ⟨p, q, ⟨fuel, trod_again hs n fuel t _ d p hf.1 h1 (fun x hx => hp x (List.mem_append_left _ hx))⟩, trodAll_again hs hf.2 h2 (fun x hx => hp x (List.mem_append_right _ hx)), rfl⟩
  | [], _ :: _, _, _, _, h, _ => by simp [DataW.TrodAll] at h
  | [], [], _ :: _, _, _, h, _ => by simp [DataW.TrodAll] at h
  | _ :: _, [], _, _, _, h, _ => by simp [DataW.TrodAll] at h
  | _ :: _, _ :: _, [], _, _, h, _ => by simp [DataW.TrodAll] at h
end
end VE
