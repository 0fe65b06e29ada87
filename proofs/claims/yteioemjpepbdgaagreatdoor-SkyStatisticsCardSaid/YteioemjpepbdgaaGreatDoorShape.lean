import Derived.Test.YteioemjpepbdgaaGreatDoorRow
import Derived.Test.YteioemjpepbdgaaGreatDoorGo
set_option linter.all false
namespace VE
open Go
section
variable {H : Type} {enc : TypeId × Value → H} {P : Program} {w : World} {base : Nat} {sp : Nat → Bool} {held : Bool}
theorem mapM_mem {α β : Type} {f : α → Option β} : ∀ {l : List α} {r : List β}, l.mapM f = some r → ∀ y, y ∈ r → ∃ x, f x = some y
  | [], r, h, y, hy => by simp only [List.mapM_nil, Option.pure_def, Option.some.injEq] at h; subst h; cases hy
  | x :: l, r, h, y, hy => by
    rw [List.mapM_cons] at h
    cases h1 : f x with
    | none => simp [h1] at h
    | some z =>
      cases h2 : l.mapM f with
      | none => simp [h1, h2] at h
      | some zs =>
        simp only [h1, h2, Option.bind_some, Option.bind_eq_bind, Option.pure_def, Option.some.injEq] at h
        subst h
        rcases List.mem_cons.1 hy with rfl | hy
        · exact ⟨x, h1⟩
        · exact mapM_mem h2 y hy
def Rd (enc : TypeId × Value → H) (P : Program) (w : World) (base : Nat) (sp : Nat → Bool) (held : Bool) (t : TypeId) (d : DataW H) : Prop := ∃ fuel cs ps, DataW.trod enc P w base sp held fuel t cs = some (d, ps)
theorem rd_int {t : TypeId} {k : IntKind} {d : DataW H} {n : Nat} (ht : P.underlying t = some (.int k)) (h : Rd enc P w base sp held t d) : ∃ z, avs P (n + 1) t d = [.int k z] ∧ (Lit.int k z).wf = true := by
  obtain ⟨fuel, cs, ps, h⟩ := h
  cases fuel with
  | zero => simp [DataW.trod] at h
  | succ fuel =>
    unfold DataW.trod at h
    split at h
    all_goals first
      | (rename_i hu; rw [ht] at hu; cases hu; done)
      | skip
    · rename_i k1 k2 z hu
      rw [ht] at hu
      injection hu with hu
      injection hu with hu
      subst hu
      split at h
      · rename_i hk
        simp only [Option.some.injEq, Prod.mk.injEq] at h
        obtain ⟨rfl, rfl⟩ := h
        exact ⟨z, by simp only [avs, ht], hk.2⟩
      · cases h
    all_goals (cases h; done)
theorem rd_slice {t e : TypeId} {d : DataW H} {n : Nat} (ht : P.underlying t = some (.slice e)) (h : Rd enc P w base sp held t d) :
    avs P (n + 1) t d = [.nils] ∨ ∃ (x : Bool) (elems : List (DataW H)), avs P (n + 1) t d = [.vsl x elems.length (elems.flatMap fun y => avs P n e y)] ∧ ∀ y, y ∈ elems → Rd enc P w base sp held e y := by
  obtain ⟨fuel, cs, ps, h⟩ := h
  cases fuel with
  | zero => simp [DataW.trod] at h
  | succ fuel =>
    unfold DataW.trod at h
    split at h
    all_goals first
      | (rename_i hu; rw [ht] at hu; cases hu; done)
      | skip
    · simp only [Option.some.injEq, Prod.mk.injEq] at h
      obtain ⟨rfl, rfl⟩ := h
      exact .inl (by simp only [avs, ht])
    · rename_i e' a len cap hu
      rw [ht] at hu
      injection hu with hu
      injection hu with hu
      subst hu
      simp only at h
      split at h
      case isFalse => cases h
      cases h1 : (List.range len).mapM fun i => (w.cells? base (a.add (i * P.cellsOf e)) (P.cellsOf e)).bind (DataW.trod enc P w base sp held fuel e) with
      | none => rw [h1] at h; simp at h
      | some elems =>
        rw [h1] at h
        simp only [Option.bind_some] at h
        obtain ⟨rest, _, h⟩ := Option.map_eq_some_iff.1 h
        simp only [Prod.mk.injEq] at h
        obtain ⟨rfl, rfl⟩ := h
        refine .inr ⟨(rest.map (·.1)).isEmpty, elems.map (·.1), by simp only [avs, ht, List.length_map], ?_⟩
        intro y hy
        obtain ⟨p, hp, rfl⟩ := List.mem_map.1 hy
        obtain ⟨i, hi⟩ := mapM_mem h1 p hp
        obtain ⟨cs', _, hcs⟩ := Option.bind_eq_some_iff.1 hi
        exact ⟨fuel, cs', p.2, hcs⟩
    all_goals (cases h; done)
theorem rd_list {β : Type} {p : AV → β → Prop} {e : TypeId} {n : Nat} (h1 : ∀ d, Rd enc P w base sp held e d → ∃ v b, avs P n e d = [v] ∧ p v b) :
    ∀ {elems : List (DataW H)}, (∀ y, y ∈ elems → Rd enc P w base sp held e y) → ∃ (vs : List AV) (bs : List β), (elems.flatMap fun y => avs P n e y) = vs ∧ vs.length = elems.length ∧ All2 p vs bs
  | [], _ => ⟨[], [], rfl, rfl, trivial⟩
  | y :: elems, h => by
    obtain ⟨v, b, e1, e2⟩ := h1 y (h y (by simp))
    obtain ⟨vs, bs, k1, k2, k3⟩ := rd_list h1 (elems := elems) (fun z hz => h z (by simp [hz]))
    exact ⟨v :: vs, b :: bs, by rw [List.flatMap_cons, e1, k1]; rfl, by simp [k2], e2, k3⟩
theorem all2_map : ∀ {vs : List AV} {bs : List Int}, All2 (fun v b => v = I64 b) vs bs → vs = bs.map I64
  | [], [], _ => rfl
  | _ :: _, _ :: _, h => by rw [List.map_cons, ← all2_map h.2, h.1]
theorem rd_ints {t e : TypeId} {d : DataW H} {n : Nat} (ht : P.underlying t = some (.slice e)) (he : P.underlying e = some (.int .i64)) (h : Rd enc P w base sp held t d) :
    ∃ v l, avs P (n + 2) t d = [v] ∧ IsI v l := by
  rcases rd_slice (n := n + 1) ht h with h | ⟨x, elems, h, hm⟩
  · exact ⟨_, [], h, .inl ⟨rfl, rfl⟩⟩
  · obtain ⟨vs, bs, k1, k2, k3⟩ := rd_list (n := n + 1) (p := fun v (b : Int) => v = I64 b) (fun d hd => by obtain ⟨z, hz, _⟩ := rd_int (n := n) he hd; exact ⟨_, z, hz, rfl⟩) hm
    refine ⟨_, bs, h, ?_⟩
    rw [k1, ← k2, all2_map k3, List.length_map]
    exact isI_vsl x bs
theorem rd_rows {t e u : TypeId} {d : DataW H} {n : Nat} (ht : P.underlying t = some (.slice e)) (he : P.underlying e = some (.slice u)) (hu : P.underlying u = some (.int .i64)) (h : Rd enc P w base sp held t d) :
    ∃ v s, avs P (n + 3) t d = [v] ∧ IsS v s := by
  rcases rd_slice (n := n + 2) ht h with h | ⟨x, elems, h, hm⟩
  · exact ⟨_, [], h, [], .inl ⟨rfl, rfl⟩, trivial⟩
  · obtain ⟨vs, bs, k1, k2, k3⟩ := rd_list (n := n + 2) (p := IsI) (fun d hd => rd_ints (n := n) he hu hd) hm
    exact ⟨_, bs, h, vs, by rw [k1, ← k2]; exact isL_vsl x vs, k3⟩
end
end VE
