import Derived.Test.YteioemjpepbdgaaGreatDoorModel
set_option linter.all false
section
namespace VE
def Le (f g : Run) : Prop := ∀ c s r, f c s = some r → g c s = some r
section
variable {P : Prog} {L : Lib} {f g : Run}
theorem callPure_mono (h : Le f g) (n : Nat) (vals : List AV) (r : AV) (hr : callPure P L f n vals = some r) : callPure P L g n vals = some r := by
  unfold callPure at hr ⊢
  cases hL : L.pure n with
  | some sp => simpa only [hL] using hr
  | none =>
    simp only [hL] at hr ⊢
    cases hP : P n with
    | none => simp [hP] at hr
    | some F =>
      simp only [hP] at hr ⊢
      cases hf : f F.body ⟨bindArgs 0 vals, [], 0, 0⟩ with
      | none => simp [hf] at hr
      | some q => rw [h _ _ _ hf]; simpa only [hf] using hr
theorem evHeap_mono (h : Le f g) (hp : Hp) (ct : Nat) (n : Nat) (vals : List AV) (r : AV × Hp × Nat) (hr : evHeap P L f hp ct n vals = some r) : evHeap P L g hp ct n vals = some r := by
  unfold evHeap at hr ⊢
  cases hL : L.heap n with
  | some sp => simpa only [hL] using hr
  | none =>
    simp only [hL] at hr ⊢
    cases hP : P n with
    | none => simp [hP] at hr
    | some F =>
      simp only [hP] at hr ⊢
      cases hf : f F.body ⟨bindArgs 0 vals, hp, ct, ct⟩ with
      | none => simp [hf] at hr
      | some q => rw [h _ _ _ hf]; simpa only [hf] using hr
theorem evRound_mono (h : Le f g) (hp : Hp) (ct : Nat) (l : Nat) (xs : List AV) (r : AV × Hp × Nat) (hr : evRound f hp ct l xs = some r) : evRound g hp ct l xs = some r := by
  unfold evRound at hr ⊢
  cases hl : hget hp l with
  | none => simp [hl] at hr
  | some o =>
    simp only [hl] at hr ⊢
    split at hr
    · rename_i tm ps as_ body pe heq
      simp only [Option.some.injEq] at heq
      subst heq
      (try simp only at hr ⊢)
      cases hb : bindPs tm ps xs with
      | none => simp [hb] at hr
      | some tm' =>
        simp only [hb] at hr ⊢
        cases h1 : f as_ ⟨tm', hp, ct, ct⟩ with
        | none => simp [h1] at hr
        | some q =>
          rw [h _ _ _ h1]
          simp only [h1] at hr ⊢
          split at hr
          · rename_i s1 heq2
            simp only [Option.some.injEq] at heq2
            subst heq2
            (try simp only at hr ⊢)
            split at hr
            · rename_i tm1 ps1 as1 body1 pe1 heq3
              (try simp only [heq3])
              cases h2 : f body ⟨s1.tm, hset s1.hp l (.lp tm1 ps1 as1 body1 1 pe1), s1.ct, s1.ct⟩ with
              | none => simp [h2] at hr
              | some q2 => rw [h _ _ _ h2]; simpa only [h2] using hr
            · simp at hr
          · simp at hr
    · simp at hr
theorem evCall_mono (h : Le f g) (hp : Hp) (ct : Nat) (m : Md) (fv : AV) (xs : List AV) (r : AV × Hp × Nat) (hr : evCall P L f hp ct m fv xs = some r) : evCall P L g hp ct m fv xs = some r := by
  unfold evCall at hr ⊢
  split at hr
  · rename_i n first cap
    cases m with
    | pure =>
      simp only at hr ⊢
      cases hz : freezeL deep hp (first ++ (xs ++ cap)) with
      | none => simp [hz] at hr
      | some q =>
        simp only [hz] at hr ⊢
        cases hc : callPure P L f n q.1 with
        | none => simp [hc] at hr
        | some u => rw [callPure_mono h n q.1 u hc]; simpa only [hc] using hr
    | own =>
      simp only at hr ⊢
      cases hz : freezeL deep hp (first ++ (xs ++ cap)) with
      | none => simp [hz] at hr
      | some q =>
        simp only [hz] at hr ⊢
        cases hc : callPure P L f n q.1 with
        | none => simp [hc] at hr
        | some u => rw [callPure_mono h n q.1 u hc]; simpa only [hc] using hr
    | heap => exact evHeap_mono h _ _ _ _ _ hr
    | dyn =>
      simp only at hr ⊢
      cases hz : pureL (first ++ (xs ++ cap)) with
      | true =>
        simp only [hz, cond_true] at hr ⊢
        cases hc : callPure P L f n (first ++ (xs ++ cap)) with
        | none => simp [hc] at hr
        | some u => rw [callPure_mono h n _ u hc]; simpa only [hc] using hr
      | false =>
        simp only [hz, cond_false] at hr ⊢
        exact evHeap_mono h _ _ _ _ _ hr
  · split at hr
    · exact evRound_mono h _ _ _ _ _ hr
    · exact evRound_mono h _ _ _ _ _ hr
    · simp at hr
  · simp at hr
theorem evOp_mono (h : Le f g) (tm : Env) (hp : Hp) (ct : Nat) (o : Op) (r : AV × Hp × Nat) (hr : evOp P L f tm hp ct o = some r) : evOp P L g tm hp ct o = some r := by
  unfold evOp at hr ⊢
  split at hr
  · exact evCall_mono h _ _ _ _ _ _ hr
  · rename_i rs fv xs
    (try simp only at hr ⊢)
    cases hc : evCall P L f hp ct .dyn (xget tm fv) (xgets tm xs) with
    | none => simp [hc] at hr
    | some q => rw [evCall_mono h _ _ _ _ _ _ hc]; simpa only [hc] using hr
  all_goals simpa only using hr
theorem evOps_mono (h : Le f g) : ∀ (ops : List ROp) (s s' : St), evOps P L f ops s = some s' → evOps P L g ops s = some s'
  | [], s, s', hr => by simpa only [evOps] using hr
  | ⟨d, gd, o⟩ :: r, s, s', hr => by
    simp only [evOps] at hr ⊢
    split at hr
    · rename_i hw
      try simp only [hw]
      cases ho : evOp P L f s.tm s.hp s.ct o with
      | none => simp [ho] at hr
      | some q => rw [evOp_mono h _ _ _ _ _ ho]; simp only [ho] at hr ⊢; exact evOps_mono h r _ _ hr
    · rename_i hw
      (try simp only [hw]); exact evOps_mono h r _ _ hr
    · simp at hr
theorem evStep_mono (h : Le f g) : ∀ (c : VC) (s : St) (r : Ex × St), evStep P L f c s = some r → evStep P L g c s = some r
  | .skip, s, r, hr => by simpa only [evStep] using hr
  | .reg ops, s, r, hr => by
    simp only [evStep] at hr ⊢
    cases ho : evOps P L f ops s with
    | none => simp [ho] at hr
    | some s' => rw [evOps_mono h _ _ _ ho]; simpa only [ho] using hr
  | .seq a b, s, r, hr => by
    simp only [evStep] at hr ⊢
    cases ha : evStep P L f a s with
    | none => simp [ha] at hr
    | some q =>
      rw [evStep_mono h a s q ha]
      obtain ⟨ex, s1⟩ := q
      cases ex with
      | normal => simp only [ha] at hr ⊢; exact evStep_mono h b s1 r hr
      | ret => simpa only [ha] using hr
      | exit id => simpa only [ha] using hr
  | .cond x a b, s, r, hr => by
    simp only [evStep] at hr ⊢
    split at hr
    · rename_i t ht
      try simp only [ht]
      cases t with
      | true => simp only [cond_true] at hr ⊢; exact evStep_mono h a s r hr
      | false => simp only [cond_false] at hr ⊢; exact evStep_mono h b s r hr
    · simp at hr
  | .blk id a, s, r, hr => by
    simp only [evStep] at hr ⊢
    cases ha : evStep P L f a s with
    | none => simp [ha] at hr
    | some q => rw [evStep_mono h a s q ha]; simpa only [ha] using hr
  | .kp live, s, r, hr => by simpa only [evStep] using hr
  | .fz ts, s, r, hr => by simpa only [evStep] using hr
  | .loop live a, s, r, hr => by
    simp only [evStep] at hr ⊢
    cases ha : evStep P L f a (compact live s) with
    | none => simp [ha] at hr
    | some q =>
      rw [evStep_mono h a _ q ha]
      obtain ⟨ex, s1⟩ := q
      cases ex with
      | normal => simp only [ha] at hr ⊢; exact h _ _ _ hr
      | ret => simpa only [ha] using hr
      | exit id => simpa only [ha] using hr
  | .rf fv ps as_ body, s, r, hr => by
    simp only [evStep] at hr ⊢
    split at hr
    · rename_i n first cap hx
      try simp only [hx]
      split at hr
      · simp at hr
      · rename_i hL
        try simp only [hL]
        cases hc : evHeap P L f ((s.ct, .lp s.tm ps as_ body 0 .none) :: s.hp) (s.ct + 1) n (first ++ (.fn (.y s.ct) [] [] :: cap)) with
        | none => simp [hc] at hr
        | some q => rw [evHeap_mono h _ _ _ _ _ hc]; simpa only [hc] using hr
    · simp at hr
  | .exit id, s, r, hr => by simpa only [evStep] using hr
  | .ret, s, r, hr => by simpa only [evStep] using hr
end
theorem ev_zero (P : Prog) (L : Lib) (c : VC) (s : St) : ev P L 0 c s = none := rfl
theorem ev_succ (P : Prog) (L : Lib) (n : Nat) : ev P L (n + 1) = evStep P L (ev P L n) := rfl
theorem ev_le (P : Prog) (L : Lib) : ∀ n, Le (ev P L n) (ev P L (n + 1))
  | 0 => fun c s r h => by rw [ev_zero] at h; cases h
  | n + 1 => fun c s r h => by
    rw [ev_succ] at h ⊢
    exact evStep_mono (ev_le P L n) c s r h
theorem ev_mono (P : Prog) (L : Lib) {n m : Nat} (h : n ≤ m) : Le (ev P L n) (ev P L m) := by
  induction h with
  | refl => exact fun _ _ _ h => h
  | step _ ih => exact fun c s r hr => ev_le P L _ c s r (ih c s r hr)
end VE
end
section
namespace VE
section
variable {P : Prog} {L : Lib} {f : Run} {F : Nat → Run}
def Sup (f : Run) (F : Nat → Run) : Prop := ∀ c s r, f c s = some r → ∃ n, F n c s = some r
def Mon (F : Nat → Run) : Prop := ∀ n m, n ≤ m → Le (F n) (F m)
theorem callPure_sup (h : Sup f F) (n : Nat) (vals : List AV) (r : AV) (hr : callPure P L f n vals = some r) : ∃ k, callPure P L (F k) n vals = some r := by
  unfold callPure at hr ⊢
  cases hL : L.pure n with
  | some sp => exact ⟨0, by simpa only [hL] using hr⟩
  | none =>
    simp only [hL] at hr ⊢
    cases hP : P n with
    | none => simp [hP] at hr
    | some G =>
      simp only [hP] at hr ⊢
      cases hf : f G.body ⟨bindArgs 0 vals, [], 0, 0⟩ with
      | none => simp [hf] at hr
      | some q =>
        obtain ⟨k, hk⟩ := h _ _ _ hf
        exact ⟨k, by rw [hk]; simpa only [hf] using hr⟩
theorem evHeap_sup (h : Sup f F) (hp : Hp) (ct : Nat) (n : Nat) (vals : List AV) (r : AV × Hp × Nat) (hr : evHeap P L f hp ct n vals = some r) : ∃ k, evHeap P L (F k) hp ct n vals = some r := by
  unfold evHeap at hr ⊢
  cases hL : L.heap n with
  | some sp => exact ⟨0, by simpa only [hL] using hr⟩
  | none =>
    simp only [hL] at hr ⊢
    cases hP : P n with
    | none => simp [hP] at hr
    | some G =>
      simp only [hP] at hr ⊢
      cases hf : f G.body ⟨bindArgs 0 vals, hp, ct, ct⟩ with
      | none => simp [hf] at hr
      | some q =>
        obtain ⟨k, hk⟩ := h _ _ _ hf
        exact ⟨k, by rw [hk]; simpa only [hf] using hr⟩
theorem evRound_sup (h : Sup f F) (hm : Mon F) (hp : Hp) (ct : Nat) (l : Nat) (xs : List AV) (r : AV × Hp × Nat) (hr : evRound f hp ct l xs = some r) : ∃ k, evRound (F k) hp ct l xs = some r := by
  have key : ∃ k, ∀ g, Le (F k) g → evRound g hp ct l xs = some r := by
    unfold evRound at hr
    cases hl : hget hp l with
    | none => simp [hl] at hr
    | some o =>
      simp only [hl] at hr
      split at hr
      · rename_i tm ps as_ body pe heq
        simp only [Option.some.injEq] at heq
        subst heq
        (try simp only at hr)
        cases hb : bindPs tm ps xs with
        | none => simp [hb] at hr
        | some tm' =>
          simp only [hb] at hr
          cases h1 : f as_ ⟨tm', hp, ct, ct⟩ with
          | none => simp [h1] at hr
          | some q =>
            obtain ⟨k1, hk1⟩ := h _ _ _ h1
            simp only [h1] at hr
            split at hr
            · rename_i s1 heq2
              simp only [Option.some.injEq] at heq2
              subst heq2
              (try simp only at hr)
              split at hr
              · rename_i tm1 ps1 as1 body1 pe1 heq3
                (try simp only at hr)
                cases h2 : f body ⟨s1.tm, hset s1.hp l (.lp tm1 ps1 as1 body1 1 pe1), s1.ct, s1.ct⟩ with
                | none => simp [h2] at hr
                | some q2 =>
                  obtain ⟨k2, hk2⟩ := h _ _ _ h2
                  simp only [h2] at hr
                  refine ⟨max k1 k2, fun g hg => ?_⟩
                  have e1 := hg _ _ _ (hm k1 _ (Nat.le_max_left k1 k2) _ _ _ hk1)
                  have e2 := hg _ _ _ (hm k2 _ (Nat.le_max_right k1 k2) _ _ _ hk2)
                  unfold evRound
                  simp only [hl, hb, e1, heq3, e2]
                  exact hr
              · simp at hr
            · simp at hr
      · simp at hr
  obtain ⟨k, hk⟩ := key
  exact ⟨k, hk _ (fun _ _ _ h => h)⟩
theorem evCall_sup (h : Sup f F) (hm : Mon F) (hp : Hp) (ct : Nat) (m : Md) (fv : AV) (xs : List AV) (r : AV × Hp × Nat) (hr : evCall P L f hp ct m fv xs = some r) : ∃ k, evCall P L (F k) hp ct m fv xs = some r := by
  unfold evCall at hr ⊢
  split at hr
  · rename_i n first cap
    cases m with
    | pure =>
      simp only at hr ⊢
      cases hz : freezeL deep hp (first ++ (xs ++ cap)) with
      | none => simp [hz] at hr
      | some q =>
        simp only [hz] at hr ⊢
        cases hc : callPure P L f n q.1 with
        | none => simp [hc] at hr
        | some u =>
          obtain ⟨k, hk⟩ := callPure_sup h n q.1 u hc
          exact ⟨k, by rw [hk]; simpa only [hc] using hr⟩
    | own =>
      simp only at hr ⊢
      cases hz : freezeL deep hp (first ++ (xs ++ cap)) with
      | none => simp [hz] at hr
      | some q =>
        simp only [hz] at hr ⊢
        cases hc : callPure P L f n q.1 with
        | none => simp [hc] at hr
        | some u =>
          obtain ⟨k, hk⟩ := callPure_sup h n q.1 u hc
          exact ⟨k, by rw [hk]; simpa only [hc] using hr⟩
    | heap => exact evHeap_sup h _ _ _ _ _ hr
    | dyn =>
      simp only at hr ⊢
      cases hz : pureL (first ++ (xs ++ cap)) with
      | true =>
        simp only [hz, cond_true] at hr ⊢
        cases hc : callPure P L f n (first ++ (xs ++ cap)) with
        | none => simp [hc] at hr
        | some u =>
          obtain ⟨k, hk⟩ := callPure_sup h n _ u hc
          exact ⟨k, by rw [hk]; simpa only [hc] using hr⟩
      | false =>
        simp only [hz, cond_false] at hr ⊢
        exact evHeap_sup h _ _ _ _ _ hr
  · split at hr
    · exact evRound_sup h hm _ _ _ _ _ hr
    · exact evRound_sup h hm _ _ _ _ _ hr
    · simp at hr
  · simp at hr
theorem evOp_sup (h : Sup f F) (hm : Mon F) (tm : Env) (hp : Hp) (ct : Nat) (o : Op) (r : AV × Hp × Nat) (hr : evOp P L f tm hp ct o = some r) : ∃ k, evOp P L (F k) tm hp ct o = some r := by
  unfold evOp at hr ⊢
  split at hr
  · exact evCall_sup h hm _ _ _ _ _ _ hr
  · rename_i rs fv xs
    (try simp only at hr ⊢)
    cases hc : evCall P L f hp ct .dyn (xget tm fv) (xgets tm xs) with
    | none => simp [hc] at hr
    | some q =>
      obtain ⟨k, hk⟩ := evCall_sup h hm _ _ _ _ _ _ hc
      exact ⟨k, by rw [hk]; simpa only [hc] using hr⟩
  all_goals exact ⟨0, by simpa only using hr⟩
theorem evOps_sup (h : Sup f F) (hm : Mon F) : ∀ (ops : List ROp) (s s' : St), evOps P L f ops s = some s' → ∃ k, evOps P L (F k) ops s = some s'
  | [], s, s', hr => ⟨0, by simpa only [evOps] using hr⟩
  | ⟨d, gd, o⟩ :: r, s, s', hr => by
    simp only [evOps] at hr ⊢
    split at hr
    · rename_i hw
      try simp only [hw]
      cases ho : evOp P L f s.tm s.hp s.ct o with
      | none => simp [ho] at hr
      | some q =>
        obtain ⟨k1, hk1⟩ := evOp_sup h hm _ _ _ _ _ ho
        simp only [ho] at hr
        obtain ⟨k2, hk2⟩ := evOps_sup h hm r _ _ hr
        refine ⟨max k1 k2, ?_⟩
        rw [evOp_mono (hm k1 _ (Nat.le_max_left k1 k2)) _ _ _ _ _ hk1]
        exact evOps_mono (hm k2 _ (Nat.le_max_right k1 k2)) r _ _ hk2
    · rename_i hw
      (try simp only [hw])
      exact evOps_sup h hm r _ _ hr
    · simp at hr
theorem evStep_sup (h : Sup f F) (hm : Mon F) : ∀ (c : VC) (s : St) (r : Ex × St), evStep P L f c s = some r → ∃ k, evStep P L (F k) c s = some r
  | .skip, s, r, hr => ⟨0, by simpa only [evStep] using hr⟩
  | .reg ops, s, r, hr => by
    simp only [evStep] at hr ⊢
    cases ho : evOps P L f ops s with
    | none => simp [ho] at hr
    | some s' =>
      obtain ⟨k, hk⟩ := evOps_sup h hm _ _ _ ho
      exact ⟨k, by rw [hk]; simpa only [ho] using hr⟩
  | .seq a b, s, r, hr => by
    simp only [evStep] at hr ⊢
    cases ha : evStep P L f a s with
    | none => simp [ha] at hr
    | some q =>
      obtain ⟨k1, hk1⟩ := evStep_sup h hm a s q ha
      obtain ⟨ex, s1⟩ := q
      cases ex with
      | normal =>
        simp only [ha] at hr
        obtain ⟨k2, hk2⟩ := evStep_sup h hm b s1 r hr
        refine ⟨max k1 k2, ?_⟩
        rw [evStep_mono (hm k1 _ (Nat.le_max_left k1 k2)) a s _ hk1]
        exact evStep_mono (hm k2 _ (Nat.le_max_right k1 k2)) b s1 r hk2
      | ret => exact ⟨k1, by rw [hk1]; simpa only [ha] using hr⟩
      | exit id => exact ⟨k1, by rw [hk1]; simpa only [ha] using hr⟩
  | .cond x a b, s, r, hr => by
    simp only [evStep] at hr ⊢
    split at hr
    · rename_i t ht
      try simp only [ht]
      cases t with
      | true => simp only [cond_true] at hr ⊢; exact evStep_sup h hm a s r hr
      | false => simp only [cond_false] at hr ⊢; exact evStep_sup h hm b s r hr
    · simp at hr
  | .blk id a, s, r, hr => by
    simp only [evStep] at hr ⊢
    cases ha : evStep P L f a s with
    | none => simp [ha] at hr
    | some q =>
      obtain ⟨k, hk⟩ := evStep_sup h hm a s q ha
      exact ⟨k, by rw [hk]; simpa only [ha] using hr⟩
  | .kp live, s, r, hr => ⟨0, by simpa only [evStep] using hr⟩
  | .fz ts, s, r, hr => ⟨0, by simpa only [evStep] using hr⟩
  | .loop live a, s, r, hr => by
    simp only [evStep] at hr ⊢
    cases ha : evStep P L f a (compact live s) with
    | none => simp [ha] at hr
    | some q =>
      obtain ⟨k1, hk1⟩ := evStep_sup h hm a _ q ha
      obtain ⟨ex, s1⟩ := q
      cases ex with
      | normal =>
        simp only [ha] at hr
        obtain ⟨k2, hk2⟩ := h _ _ _ hr
        refine ⟨max k1 k2, ?_⟩
        rw [evStep_mono (hm k1 _ (Nat.le_max_left k1 k2)) a _ _ hk1]
        exact hm k2 _ (Nat.le_max_right k1 k2) _ _ _ hk2
      | ret => exact ⟨k1, by rw [hk1]; simpa only [ha] using hr⟩
      | exit id => exact ⟨k1, by rw [hk1]; simpa only [ha] using hr⟩
  | .rf fv ps as_ body, s, r, hr => by
    simp only [evStep] at hr ⊢
    split at hr
    · rename_i n first cap hx
      try simp only [hx]
      split at hr
      · simp at hr
      · rename_i hL
        try simp only [hL]
        cases hc : evHeap P L f ((s.ct, .lp s.tm ps as_ body 0 .none) :: s.hp) (s.ct + 1) n (first ++ (.fn (.y s.ct) [] [] :: cap)) with
        | none => simp [hc] at hr
        | some q =>
          obtain ⟨k, hk⟩ := evHeap_sup h _ _ _ _ _ hc
          exact ⟨k, by rw [hk]; simpa only [hc] using hr⟩
    · simp at hr
  | .exit id, s, r, hr => ⟨0, by simpa only [evStep] using hr⟩
  | .ret, s, r, hr => ⟨0, by simpa only [evStep] using hr⟩
end
section
variable (P : Prog) (L : Lib)
noncomputable def D : Run := fun c s => @dite _ (∃ r n, ev P L n c s = some r) (Classical.propDecidable _) (fun h => some h.choose) (fun _ => none)
variable {P L}
theorem D_of {c : VC} {s : St} {r : Ex × St} {n : Nat} (h : ev P L n c s = some r) : D P L c s = some r := by
  have hx : ∃ r n, ev P L n c s = some r := ⟨r, n, h⟩
  unfold D
  rw [dif_pos hx]
  obtain ⟨m, hm⟩ := hx.choose_spec
  have e1 := ev_mono P L (Nat.le_max_left n m) _ _ _ h
  have e2 := ev_mono P L (Nat.le_max_right n m) _ _ _ hm
  rw [e1] at e2
  exact e2.symm
theorem D_ev {c : VC} {s : St} {r : Ex × St} (h : D P L c s = some r) : ∃ n, ev P L n c s = some r := by
  unfold D at h
  by_cases hx : ∃ r n, ev P L n c s = some r
  · rw [dif_pos hx] at h
    injection h with h
    subst h
    exact hx.choose_spec
  · rw [dif_neg hx] at h
    cases h
theorem D_le (n : Nat) : Le (ev P L n) (D P L) := fun _ _ _ h => D_of h
theorem D_sup : Sup (D P L) (ev P L) := fun _ _ _ h => D_ev h
theorem ev_mon : Mon (ev P L) := fun _ _ h => ev_mono P L h
theorem D_eq (c : VC) (s : St) : D P L c s = evStep P L (D P L) c s := by
  cases h : D P L c s with
  | some r =>
    obtain ⟨n, hn⟩ := D_ev h
    cases n with
    | zero => rw [ev_zero] at hn; cases hn
    | succ n => rw [ev_succ] at hn; exact (evStep_mono (D_le n) c s r hn).symm
  | none =>
    cases hs : evStep P L (D P L) c s with
    | none => rfl
    | some r =>
      obtain ⟨n, hn⟩ := evStep_sup D_sup ev_mon c s r hs
      rw [← ev_succ] at hn
      rw [D_of hn] at h
      cases h
theorem D_call {f : Nat} {vals : List AV} {r : AV} (h : callPure P L (D P L) f vals = some r) : ∃ n, evF P L n f vals = some r := callPure_sup D_sup f vals r h
end
end VE
end
section
namespace VE
open Go (IntKind)
def isPre : List Nat → List Nat → Bool
  | [], _ => true
  | a :: x, b :: y => Nat.beq a b && isPre x y
  | _ :: _, [] => false
def indexN (sub : List Nat) : List Nat → Nat → Option Nat
  | [], k => bif isPre sub [] then some k else none
  | b :: r, k => bif isPre sub (b :: r) then some k else indexN sub r (k + 1)
def cutS : List AV → Option AV
  | [.str s, .str sep] =>
    bif Nat.blt s.length 4294967281 then
      match indexN sep s 0 with
      | some i => some (.tup [.str (s.take i), .str (s.drop (i + sep.length)), .bool true])
      | none => some (.tup [.str s, .str [], .bool false])
    else none
  | _ => none
def cutPrefixS : List AV → Option AV
  | [.str s, .str p] => some (bif isPre p s then .tup [.str (s.drop p.length), .bool true] else .tup [.str s, .bool false])
  | _ => none
def hasPrefixS : List AV → Option AV
  | [.str s, .str p] => some (.bool (isPre p s))
  | _ => none
def trimPrefixS : List AV → Option AV
  | [.str s, .str p] => some (.str (bif isPre p s then s.drop p.length else s))
  | _ => none
def memB (i : Nat) : List Nat → Bool
  | [] => false
  | j :: r => bif Nat.beq j i then true else memB i r
def dropB (set : List Nat) : List Nat → List Nat
  | [] => []
  | b :: r => bif memB b set then dropB set r else b :: r
def asciiB : List Nat → Bool
  | [] => true
  | b :: r => Nat.blt b 128 && asciiB r
def trimS : List AV → Option AV
  | [.str s, .str set] => bif asciiB set && (Nat.blt s.length 4294967281 && Nat.blt set.length 4294967281) then some (.str (dropB set (dropB set s.reverse).reverse)) else none
  | _ => none
def repS (s : List Nat) : Nat → List Nat
  | 0 => []
  | n + 1 => s ++ repS s n
def repeatS : List AV → Option AV
  | [.str s, .int .i64 (.ofNat n)] => bif Nat.ble n 1099511627776 && Nat.ble (s.length * n) 1099511627776 then some (.str (repS s n)) else none
  | _ => none
def digitsN : Nat → Nat → List Nat → List Nat
  | 0, _, acc => acc
  | f + 1, n, acc => bif Nat.blt n 10 then (48 + n) :: acc else digitsN f (n / 10) ((48 + n % 10) :: acc)
def natS (n : Nat) : List Nat := digitsN (n + 1) n []
def intS : Int → List Nat
  | .ofNat n => natS n
  | .negSucc n => 45 :: natS (n + 1)
def inI64 : Int → Bool
  | .ofNat n => Nat.blt n 9223372036854775808
  | .negSucc n => Nat.blt n 9223372036854775808
def itoaS : List AV → Option AV
  | [.int .i64 n] => bif inI64 n then some (.str (intS n)) else none
  | _ => none
def formatUintS : List AV → Option AV
  | [.int .u64 (.ofNat n), .int .i64 10] => bif Nat.blt n 18446744073709551616 then some (.str (natS n)) else none
  | _ => none
def valN : List Nat → Nat → Option Nat
  | [], a => some a
  | b :: r, a => bif Nat.ble 48 b && Nat.ble b 57 then valN r (10 * a + (b - 48)) else none
def atoiS : List AV → Option AV
  | [.str s] =>
    bif Nat.blt 0 s.length && Nat.ble s.length 18 then
      match valN s 0 with | some n => some (.tup [.int .i64 n, .undef]) | none => none
    else none
  | _ => none
def add64S : List AV → Option AV
  | [.int .u64 (.ofNat x), .int .u64 (.ofNat y), .int .u64 (.ofNat c)] =>
    bif Nat.ble c 1 && (Nat.blt x 18446744073709551616 && Nat.blt y 18446744073709551616) then some (.tup [.int .u64 ((x + y + c) % 18446744073709551616 : Nat), .int .u64 ((x + y + c) / 18446744073709551616 : Nat)]) else none
  | _ => none
def sub64S : List AV → Option AV
  | [.int .u64 (.ofNat x), .int .u64 (.ofNat y), .int .u64 (.ofNat c)] =>
    bif Nat.ble c 1 && (Nat.blt x 18446744073709551616 && Nat.blt y 18446744073709551616) then some (.tup [.int .u64 ((x + 18446744073709551616 * 2 - y - c) % 18446744073709551616 : Nat), .int .u64 (bif Nat.ble (y + c) x then 0 else 1)]) else none
  | _ => none
def mul64S : List AV → Option AV
  | [.int .u64 (.ofNat x), .int .u64 (.ofNat y)] => bif Nat.blt x 18446744073709551616 && Nat.blt y 18446744073709551616 then some (.tup [.int .u64 (x * y / 18446744073709551616 : Nat), .int .u64 (x * y % 18446744073709551616 : Nat)]) else none
  | _ => none
def lenB : Nat → Nat → Nat
  | 0, _ => 0
  | f + 1, n => bif Nat.beq n 0 then 0 else 1 + lenB f (n / 2)
def len64S : List AV → Option AV
  | [.int .u64 (.ofNat x)] => bif Nat.blt x 18446744073709551616 then some (.int .i64 (lenB 64 x)) else none
  | _ => none
def lz64S : List AV → Option AV
  | [.int .u64 (.ofNat x)] => bif Nat.blt x 18446744073709551616 then some (.int .i64 (64 - lenB 64 x : Nat)) else none
  | _ => none
end VE
end
section
namespace VE
inductive Tr (α : Type) where
  | l
  | n (k : Nat) (v : α) (a b : Tr α)
def Tr.find {α : Type} : Tr α → Nat → Option α
  | .l, _ => none
  | .n k v a b, i => bif Nat.beq i k then some v else bif Nat.blt i k then a.find i else b.find i
end VE
end
section
namespace VE
open Go (IntKind FloatKind)
def kindN : IntKind → Nat
  | .i8 => 0 | .i16 => 1 | .i32 => 2 | .i64 => 3 | .u8 => 4 | .u16 => 5 | .u32 => 6 | .u64 => 7
def eqI : Int → Int → Bool
  | .ofNat a, .ofNat b => Nat.beq a b
  | .negSucc a, .negSucc b => Nat.beq a b
  | _, _ => false
def eqB : Bool → Bool → Bool
  | true, true | false, false => true
  | _, _ => false
def eqF : FloatKind → FloatKind → Bool
  | .f32, .f32 | .f64, .f64 => true
  | _, _ => false
mutual
def eqD : AV → AV → Bool
  | .int k a, .int k' b => Nat.beq (kindN k) (kindN k') && eqI a b
  | .bool a, .bool b => eqB a b
  | .flt k a, .flt k' b => eqF k k' && Nat.beq a b
  | .str a, .str b => eqL a b
  | .nilp, .nilp => true
  | .vptr a, .vptr b => eqDL a b
  | .nils, .nils => true
  | .vsl e n a, .vsl e' n' b => eqB e e' && (Nat.beq n n' && eqDL a b)
  | .fsl e s n a, .fsl e' s' n' b => eqB e e' && (Nat.beq s s' && (Nat.beq n n' && eqDL a b))
  | .fn (.f g) a b, .fn (.f g') a' b' => Nat.beq g g' && (eqDL a a' && eqDL b b')
  | .nilf, .nilf => true
  | .nilm, .nilm => true
  | .vmap a b, .vmap a' b' => eqDL a a' && eqDL b b'
  | .agg a, .agg b => eqDL a b
  | .tup a, .tup b => eqDL a b
  | .undef, .undef => true
  | _, _ => false
def eqDL : List AV → List AV → Bool
  | [], [] => true
  | a :: x, b :: y => eqD a b && eqDL x y
  | _, _ => false
end
def hI : Int → Nat
  | .ofNat n => n
  | .negSucc n => n + n
def hS : List Nat → Nat
  | [] => 1
  | b :: r => (b + 257 * hS r) % 65521
mutual
def hV : AV → Nat
  | .int _ n => hI n
  | .bool b => bif b then 1 else 2
  | .flt _ n => n
  | .str s => hS s
  | .vsl _ n cs => n + hL cs
  | .agg cs => hL cs
  | .tup cs => hL cs
  | _ => 5
def hL : List AV → Nat
  | [] => 7
  | v :: r => (hV v + 263 * hL r) % 65521
end
abbrev Te := Tr (List AV × AV)
abbrev Ent := List Te
def tfindH (h : Nat) (vals : List AV) : Ent → Option AV
  | [] => none
  | t :: l => match t.find h with
    | some (a, r) => bif eqDL a vals then some r else tfindH h vals l
    | none => tfindH h vals l
def tfind (vals : List AV) (l : Ent) : Option AV := tfindH (hL vals) vals l
abbrev Te.o (h : Nat) (a : List AV) (r : AV) : Te := .n h (a, r) .l .l
abbrev Te.m (h : Nat) (a : List AV) (r : AV) (x y : Te) : Te := .n h (a, r) x y
def gather (n : Nat) : List (Tr Ent) → Option Ent
  | [] => none
  | t :: r => match t.find n with
    | none => gather n r
    | some l => match gather n r with | none => some l | some m => some (l ++ m)
def libM (L : Lib) (T : List (Tr Ent)) (ex : Nat) : Lib :=
  ⟨fun i => match L.pure i with
    | some sp => some sp
    | none => bif Nat.beq i ex then none else match gather i T with | some l => some (fun vals => tfind vals l) | none => none, L.heap⟩
def teOk (P : Prog) (L : Lib) (f : Nat) : Te → Bool
  | .l => true
  | .n _ e x y => (match evF P L 100000 f e.1 with | some r' => eqD r' e.2 | none => false) && (teOk P L f x && teOk P L f y)
def entOk (P : Prog) (L : Lib) (f : Nat) : Ent → Bool
  | [] => true
  | t :: l => teOk P L f t && entOk P L f l
def chunkOk (P : Prog) (L : Lib) (T : List (Tr Ent)) : List (Nat × Ent) → Bool
  | [] => true
  | (f, l) :: C => entOk P (libM L T f) f l && chunkOk P L T C
end VE
end
