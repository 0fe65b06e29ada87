import Derived.Test.YteioemjpepbdgaaGreatDoorMono
import Derived.Test.YteioemjpepbdgaaGreatDoorFn
set_option linter.all false
section
namespace VE
open Go
theorem kindN_inj {a b : IntKind} (h : Nat.beq (kindN a) (kindN b) = true) : a = b := by
  cases a <;> cases b <;> first | rfl | (exact absurd h (by decide))
theorem eqI_spec {a b : Int} (h : eqI a b = true) : a = b := by
  cases a <;> cases b <;> simp only [eqI, reduceCtorEq] at h <;> rw [Nat.eq_of_beq_eq_true h]
theorem eqB_spec {a b : Bool} (h : eqB a b = true) : a = b := by
  cases a <;> cases b <;> first | rfl | (exact absurd h (by decide))
theorem eqF_spec {a b : FloatKind} (h : eqF a b = true) : a = b := by
  cases a <;> cases b <;> first | rfl | (exact absurd h (by decide))
mutual
theorem eqD_spec : ∀ (a b : AV), eqD a b = true → a = b
  | .int k a, b, h => by
    cases b <;> simp only [eqD, Bool.and_eq_true, Bool.false_eq_true] at h
    rw [kindN_inj h.1, eqI_spec h.2]
  | .bool a, b, h => by
    cases b <;> simp only [eqD, Bool.false_eq_true] at h
    rw [eqB_spec h]
  | .flt k a, b, h => by
    cases b <;> simp only [eqD, Bool.and_eq_true, Bool.false_eq_true] at h
    rw [eqF_spec h.1, Nat.eq_of_beq_eq_true h.2]
  | .str a, b, h => by
    cases b <;> simp only [eqD, Bool.false_eq_true] at h
    rw [eqL_spec h]
  | .nilp, b, h => by cases b <;> simp only [eqD, Bool.false_eq_true] at h; rfl
  | .ptr _ _, b, h => by cases b <;> simp only [eqD, Bool.false_eq_true] at h
  | .vptr a, b, h => by
    cases b <;> simp only [eqD, Bool.false_eq_true] at h
    rw [eqDL_spec _ _ h]
  | .nils, b, h => by cases b <;> simp only [eqD, Bool.false_eq_true] at h; rfl
  | .vsl e n a, b, h => by
    cases b <;> simp only [eqD, Bool.and_eq_true, Bool.false_eq_true] at h
    rw [eqB_spec h.1, Nat.eq_of_beq_eq_true h.2.1, eqDL_spec _ _ h.2.2]
  | .fsl e s n a, b, h => by
    cases b <;> simp only [eqD, Bool.and_eq_true, Bool.false_eq_true] at h
    rw [eqB_spec h.1, Nat.eq_of_beq_eq_true h.2.1, Nat.eq_of_beq_eq_true h.2.2.1, eqDL_spec _ _ h.2.2.2]
  | .osl _ _ _, b, h => by cases b <;> simp only [eqD, Bool.false_eq_true] at h
  | .fn (.f g) x y, b, h => by
    cases b <;> try (simp only [eqD, Bool.false_eq_true] at h; done)
    rename_i fr _ _
    cases fr <;> simp only [eqD, Bool.and_eq_true, Bool.false_eq_true] at h
    rw [Nat.eq_of_beq_eq_true h.1, eqDL_spec _ _ h.2.1, eqDL_spec _ _ h.2.2]
  | .fn (.y _) _ _, b, h => by cases b <;> simp only [eqD, Bool.false_eq_true] at h
  | .nilf, b, h => by cases b <;> simp only [eqD, Bool.false_eq_true] at h; rfl
  | .nilm, b, h => by cases b <;> simp only [eqD, Bool.false_eq_true] at h; rfl
  | .map _, b, h => by cases b <;> simp only [eqD, Bool.false_eq_true] at h
  | .vmap x y, b, h => by
    cases b <;> simp only [eqD, Bool.and_eq_true, Bool.false_eq_true] at h
    rw [eqDL_spec _ _ h.1, eqDL_spec _ _ h.2]
  | .it _, b, h => by cases b <;> simp only [eqD, Bool.false_eq_true] at h
  | .agg a, b, h => by
    cases b <;> simp only [eqD, Bool.false_eq_true] at h
    rw [eqDL_spec _ _ h]
  | .tup a, b, h => by
    cases b <;> simp only [eqD, Bool.false_eq_true] at h
    rw [eqDL_spec _ _ h]
  | .undef, b, h => by cases b <;> simp only [eqD, Bool.false_eq_true] at h; rfl
theorem eqDL_spec : ∀ (a b : List AV), eqDL a b = true → a = b
  | [], b, h => by cases b <;> simp only [eqDL, Bool.false_eq_true] at h; rfl
  | x :: a, b, h => by
    cases b <;> simp only [eqDL, Bool.and_eq_true, Bool.false_eq_true] at h
    rw [eqD_spec _ _ h.1, eqDL_spec _ _ h.2]
end
def Tr.Has {α : Type} (x : α) : Tr α → Prop
  | .l => False
  | .n _ v a b => v = x ∨ a.Has x ∨ b.Has x
theorem Tr.find_has {α : Type} {h : Nat} {x : α} : ∀ {t : Tr α}, t.find h = some x → t.Has x
  | .l, hf => by simp [Tr.find] at hf
  | .n k v a b, hf => by
    simp only [Tr.find] at hf
    cases h1 : Nat.beq h k with
    | true => rw [h1] at hf; simp only [cond_true, Option.some.injEq] at hf; exact .inl hf
    | false =>
      rw [h1] at hf
      simp only [cond_false] at hf
      cases h2 : Nat.blt h k with
      | true => rw [h2] at hf; exact .inr (.inl (Tr.find_has hf))
      | false => rw [h2] at hf; exact .inr (.inr (Tr.find_has hf))
def InE (vals : List AV) (r : AV) (l : Ent) : Prop := ∃ t, t ∈ l ∧ t.Has (vals, r)
theorem tfindH_mem {h : Nat} {vals : List AV} {r : AV} : ∀ {l : Ent}, tfindH h vals l = some r → InE vals r l
  | [], hf => by simp [tfindH] at hf
  | t :: l, hf => by
    have tail : tfindH h vals l = some r → InE vals r (t :: l) := fun q => by
      obtain ⟨t', h1, h2⟩ := tfindH_mem q
      exact ⟨t', List.mem_cons_of_mem _ h1, h2⟩
    simp only [tfindH] at hf
    split at hf
    · rename_i a q he
      cases hb : eqDL a vals with
      | true =>
        rw [hb] at hf
        simp only [cond_true, Option.some.injEq] at hf
        rw [eqDL_spec _ _ hb, hf] at he
        exact ⟨t, List.mem_cons_self, Tr.find_has he⟩
      | false =>
        rw [hb] at hf
        exact tail hf
    · exact tail hf
theorem tfind_mem {vals : List AV} {r : AV} {l : Ent} (h : tfind vals l = some r) : InE vals r l := tfindH_mem h
def AllC (Λ : Link) (f : Nat) (l : Ent) : Prop := ∀ vals r, InE vals r l → PureC Λ f vals r
theorem AllC.nil {Λ : Link} {f : Nat} : AllC Λ f [] := fun _ _ h => by obtain ⟨t, h, _⟩ := h; cases h
theorem AllC.app {Λ : Link} {f : Nat} {a b : Ent} (ha : AllC Λ f a) (hb : AllC Λ f b) : AllC Λ f (a ++ b) := fun v r h => by
  obtain ⟨t, h, h2⟩ := h
  exact (List.mem_append.1 h).elim (fun h => ha v r ⟨t, h, h2⟩) (fun h => hb v r ⟨t, h, h2⟩)
theorem AllC.one {Λ : Link} {f k : Nat} {vals : List AV} {r : AV} (h : PureC Λ f vals r) : AllC Λ f [.n k (vals, r) .l .l] := fun v q hm => by
  obtain ⟨t, h1, h2⟩ := hm
  rcases List.mem_cons.1 h1 with e | e
  · subst e
    rcases h2 with h2 | h2 | h2
    · injection h2 with e1 e2
      subst e1; subst e2
      exact h
    · exact h2.elim
    · exact h2.elim
  · cases e
def Tr.All {α : Type} (p : Nat → α → Prop) : Tr α → Prop
  | .l => True
  | .n k v a b => p k v ∧ a.All p ∧ b.All p
theorem Tr.all_l {α : Type} {p : Nat → α → Prop} : Tr.All p .l := trivial
theorem Tr.all_n {α : Type} {p : Nat → α → Prop} {k : Nat} {v : α} {a b : Tr α} (h : p k v) (ha : a.All p) (hb : b.All p) : Tr.All p (.n k v a b) := ⟨h, ha, hb⟩
theorem Tr.all_find {α : Type} {p : Nat → α → Prop} {i : Nat} {v : α} : ∀ {t : Tr α}, t.All p → t.find i = some v → p i v
  | .l, _, h => by simp [Tr.find] at h
  | .n k w a b, ha, h => by
    simp only [Tr.find] at h
    cases hb : Nat.beq i k with
    | true =>
      rw [hb] at h
      simp only [cond_true, Option.some.injEq] at h
      subst h
      rw [Nat.eq_of_beq_eq_true hb]
      exact ha.1
    | false =>
      rw [hb] at h
      simp only [cond_false] at h
      cases hc : Nat.blt i k with
      | true => rw [hc] at h; exact Tr.all_find ha.2.1 h
      | false => rw [hc] at h; exact Tr.all_find ha.2.2 h
abbrev Link.withLib (Λ : Link) (L : Lib) : Link := { Λ with lib := L }
theorem orel_lib {Λ : Link} {L : Lib} {m : Mp} {S : Nat → Prop} {w : World} {id : Nat} {o : Obj} : ORel (Λ.withLib L) m S w id o ↔ ORel Λ m S w id o := by
  cases o <;> exact Iff.rfl
theorem hrel_lib {Λ : Link} {L : Lib} {m : Mp} {S : Nat → Prop} {w : World} {hp : Hp} {ct : Nat} : HRel (Λ.withLib L) m S w hp ct ↔ HRel Λ m S w hp ct :=
  ⟨fun h => ⟨fun id o p h1 h2 => orel_lib.1 (h.obj id o p h1 h2), h.lt, h.inj, h.slt, h.blt, h.low, h.good, h.goodS, h.hlt⟩,
   fun h => ⟨fun id o p h1 h2 => orel_lib.2 (h.obj id o p h1 h2), h.lt, h.inj, h.slt, h.blt, h.low, h.good, h.goodS, h.hlt⟩⟩
theorem heapC_lib {Λ : Link} {L : Lib} {n : Nat} {hp : Hp} {ct : Nat} {vals : List AV} {v : AV} {hp' : Hp} {ct' : Nat} (h : HeapC Λ n hp ct vals v hp' ct') : HeapC (Λ.withLib L) n hp ct vals v hp' ct' := by
  intro m S w args h1 h2
  have post : ∀ e w', HeapPost Λ m S w hp ct v hp' ct' e w' → HeapPost (Λ.withLib L) m S w hp ct v hp' ct' e w' := by
    rintro e w' ⟨u, m', S', k1, k2, k3, k4, k5⟩
    exact ⟨u, m', S', k1, hrel_lib.2 k2, k3, k4, k5⟩
  exact Invoked.mono (h m S w args (hrel_lib.1 h1) h2) post
def AllT (Λ : Link) (T : List (Tr Ent)) : Prop := ∀ t, t ∈ T → t.All (AllC Λ)
theorem AllT.nil {Λ : Link} : AllT Λ [] := fun _ h => by cases h
theorem AllT.cons {Λ : Link} {t : Tr Ent} {T : List (Tr Ent)} (h : t.All (AllC Λ)) (hT : AllT Λ T) : AllT Λ (t :: T) := fun u hu => by
  rcases List.mem_cons.1 hu with e | e
  · subst e; exact h
  · exact hT u e
theorem gather_ok {Λ : Link} {n : Nat} : ∀ {T : List (Tr Ent)} {l : Ent}, AllT Λ T → gather n T = some l → AllC Λ n l
  | [], _, _, h => by simp [gather] at h
  | t :: T, l, hT, h => by
    have hT' : AllT Λ T := fun u hu => hT u (List.mem_cons_of_mem _ hu)
    simp only [gather] at h
    split at h
    · exact gather_ok hT' h
    · rename_i l1 h1
      have c1 := Tr.all_find (hT t List.mem_cons_self) h1
      split at h
      · simp only [Option.some.injEq] at h
        subst h; exact c1
      · rename_i m h2
        simp only [Option.some.injEq] at h
        subst h; exact AllC.app c1 (gather_ok hT' h2)
theorem libM_ok {Λ : Link} (hΛ : LinkOk Λ) {T : List (Tr Ent)} (hT : AllT Λ T) (ex : Nat) : LinkOk (Λ.withLib (libM Λ.lib T ex)) where
  hint := hΛ.hint
  mixed := hΛ.mixed
  prog := hΛ.prog
  lib n sp vals r h hs := by
    show PureC Λ n vals r
    simp only [libM] at h
    cases hl : Λ.lib.pure n with
    | some sp' =>
      simp only [hl, Option.some.injEq] at h
      subst h
      exact hΛ.lib n _ vals r hl hs
    | none =>
      simp only [hl] at h
      cases hb : Nat.beq n ex with
      | true => rw [hb] at h; cases h
      | false =>
        rw [hb] at h
        simp only [cond_false] at h
        cases hf : gather n T with
        | none => simp [hf] at h
        | some l =>
          simp only [hf, Option.some.injEq] at h
          subst h
          exact gather_ok hT hf vals r (tfind_mem hs)
  libH n sp hp ct vals v hp' ct' h hs := heapC_lib (hΛ.libH n sp hp ct vals v hp' ct' h hs)
theorem teOk_spec {Λ : Link} {L : Lib} (hΛ : LinkOk (Λ.withLib L)) {f : Nat} {vals : List AV} {r : AV} : ∀ {t : Te}, teOk Λ.prog L f t = true → t.Has (vals, r) → PureC Λ f vals r
  | .l, _, h => h.elim
  | .n k e x y, h, hm => by
    simp only [teOk, Bool.and_eq_true] at h
    rcases hm with e1 | hm | hm
    · subst e1
      have h1 := h.1
      split at h1
      · rename_i r' hr
        have e : r' = r := eqD_spec _ _ h1
        rw [← e]
        exact sound hΛ hr
      · cases h1
    · exact teOk_spec hΛ h.2.1 hm
    · exact teOk_spec hΛ h.2.2 hm
theorem entOk_spec {Λ : Link} {L : Lib} (hΛ : LinkOk (Λ.withLib L)) {f : Nat} : ∀ {l : Ent}, entOk Λ.prog L f l = true → AllC Λ f l
  | [], _ => AllC.nil
  | t :: l, h => by
    simp only [entOk, Bool.and_eq_true] at h
    intro v q hm
    obtain ⟨t', h1, h2⟩ := hm
    rcases List.mem_cons.1 h1 with e | e
    · subst e
      exact teOk_spec hΛ h.1 h2
    · exact entOk_spec hΛ h.2 v q ⟨t', e, h2⟩
theorem chunk_ok {Λ : Link} (hΛ : LinkOk Λ) {T : List (Tr Ent)} (hT : AllT Λ T) : ∀ {C : List (Nat × Ent)}, chunkOk Λ.prog Λ.lib T C = true → ∀ f l, (f, l) ∈ C → AllC Λ f l
  | [], _, f, l, h => by cases h
  | (g, l') :: C, h, f, l, hm => by
    simp only [chunkOk, Bool.and_eq_true] at h
    rcases List.mem_cons.1 hm with e | hm
    · injection e with e1 e2
      subst e1; subst e2
      exact entOk_spec (libM_ok hΛ hT f) h.1
    · exact chunk_ok hΛ hT h.2 f l hm
theorem chunk_at {Λ : Link} {P : Prog} {L : Lib} (hΛ : LinkOk Λ) (hp : Λ.prog = P) (hl : Λ.lib = L) {T : List (Tr Ent)} (hT : AllT Λ T) {C : List (Nat × Ent)} (h : chunkOk P L T C = true) : ∀ f l, (f, l) ∈ C → AllC Λ f l := by
  subst hp; subst hl
  exact chunk_ok hΛ hT h
end VE
end
section
namespace VE
open Go
structure HD where
  n : Nat
  live : List (Nat × List Nat)
  out : List (Nat × List Nat)
  mode : List (Nat × Md)
  fz : List (Nat × List Nat)
  deriving Inhabited
def alook {α : Type} (i : Nat) : List (Nat × α) → Option α
  | [] => none
  | (j, a) :: l => bif Nat.beq j i then some a else alook i l
def mkHint (ren : Nat → Option Nat) (d : HD) : Hint where
  n := d.n
  ren := ren
  live := fun l => match alook l d.live with | some x => x | none => []
  out := fun l => alook l d.out
  mode := fun k => match alook k d.mode with | some x => x | none => .pure
  fz := fun i => match alook i d.fz with | some x => x | none => []
def hintT (ren : Tr Nat) (t : Tr HD) (i : Nat) : Hint := mkHint ren.find (match t.find i with | some d => d | none => ⟨0, [], [], [], []⟩)
def fidT (t : Tr Nat) (i : Nat) : Nat := match t.find i with | some f => f | none => 0
def renOk (fid : Tr Nat) : Tr Nat → Bool
  | .l => true
  | .n f g a b => Nat.beq (fidT fid g) f && (renOk fid a && renOk fid b)
theorem renOk_spec {fid : Tr Nat} : ∀ {t : Tr Nat}, renOk fid t = true → t.All (fun f g => fidT fid g = f)
  | .l, _ => trivial
  | .n f g a b, h => by
    simp only [renOk, Bool.and_eq_true] at h
    exact ⟨Nat.eq_of_beq_eq_true h.1, renOk_spec h.2.1, renOk_spec h.2.2⟩
def CodeOk (P : Program) (fid : Tr Nat) (ren : Tr Nat) (hd : Tr HD) (i : Nat) (F : Fnc) : Prop :=
  ∃ fn, P.funcs[fidT fid i]? = some fn ∧ compFn P (hintT ren hd i) fn = some F ∧ fn.name ≠ "runtime.NumGoroutine"
end VE
end
