import Derived.ChangeKeysEq
import Derived.Test.YteioemjpepbdgaaGreatDoorOpF
set_option linter.all false
section
namespace VE
open Go
theorem eqCells_append : ∀ (k1 k2 : List Nat) (a b : List AV) (r : Bool), eqCells (k1 ++ k2) a b = some r →
    ∃ r1 r2, eqCells k1 (a.take k1.length) (b.take k1.length) = some r1 ∧ eqCells k2 (a.drop k1.length) (b.drop k1.length) = some r2 ∧ r = (r1 && r2)
  | [], k2, a, b, r, h => ⟨true, r, by simp [eqCells], by simpa using h, by simp⟩
  | k :: k1, k2, [], b, r, h => by
    simp only [List.cons_append] at h
    unfold eqCells at h
    split at h <;> simp_all
  | k :: k1, k2, x :: a, [], r, h => by
    simp only [List.cons_append] at h
    unfold eqCells at h
    split at h <;> simp_all
  | k :: k1, k2, x :: a, y :: b, r, h => by
    simp only [List.cons_append] at h
    have step : ∀ (q : Bool) (f : Bool → Bool), (match eqCells (k1 ++ k2) a b with | some r => some (f r) | none => none) = some q → ∃ r0, eqCells (k1 ++ k2) a b = some r0 ∧ q = f r0 := by
      intro q f hq
      cases he : eqCells (k1 ++ k2) a b with
      | none => simp [he] at hq
      | some r0 => simp only [he, Option.some.injEq] at hq; exact ⟨r0, rfl, hq.symm⟩
    unfold eqCells at h
    split at h
    · simp_all
    · rename_i e1 e2 e3
      simp only [List.cons.injEq] at e1 e2 e3
      obtain ⟨rfl, rfl⟩ := e1; obtain ⟨rfl, rfl⟩ := e2; obtain ⟨rfl, rfl⟩ := e3
      obtain ⟨r0, h0, rfl⟩ := step r _ h
      obtain ⟨r1, r2, h1, h2, rfl⟩ := eqCells_append k1 k2 _ _ r0 h0
      exact ⟨_, r2, by simp only [List.length_cons, List.take_succ_cons, eqCells, h1], by simpa using h2, (Bool.and_assoc _ _ _).symm⟩
    · rename_i e1 e2 e3
      simp only [List.cons.injEq] at e1 e2 e3
      obtain ⟨rfl, rfl⟩ := e1; obtain ⟨rfl, rfl⟩ := e2; obtain ⟨rfl, rfl⟩ := e3
      split at h
      · rename_i hk
        obtain ⟨r0, h0, rfl⟩ := step r _ h
        obtain ⟨r1, r2, h1, h2, rfl⟩ := eqCells_append k1 k2 _ _ r0 h0
        exact ⟨_, r2, by simp only [List.length_cons, List.take_succ_cons, eqCells, h1, hk, if_true], by simpa using h2, (Bool.and_assoc _ _ _).symm⟩
      · cases h
    · rename_i e1 e2 e3
      simp only [List.cons.injEq] at e1 e2 e3
      obtain ⟨rfl, rfl⟩ := e1; obtain ⟨rfl, rfl⟩ := e2; obtain ⟨rfl, rfl⟩ := e3
      obtain ⟨r0, h0, rfl⟩ := step r _ h
      obtain ⟨r1, r2, h1, h2, rfl⟩ := eqCells_append k1 k2 _ _ r0 h0
      exact ⟨_, r2, by simp only [List.length_cons, List.take_succ_cons, eqCells, h1], by simpa using h2, (Bool.and_assoc _ _ _).symm⟩
    · cases h
theorem eqCells_len : ∀ (ks : List Nat) (a b : List AV) (r : Bool), eqCells ks a b = some r → a.length = ks.length ∧ b.length = ks.length
  | [], a, b, r, h => by
    unfold eqCells at h
    split at h <;> simp_all
  | k :: ks, [], b, r, h => by
    unfold eqCells at h
    split at h <;> simp_all
  | k :: ks, x :: a, [], r, h => by
    unfold eqCells at h
    split at h <;> simp_all
  | k :: ks, x :: a, y :: b, r, h => by
    have : ∃ r0, eqCells ks a b = some r0 := by
      cases he : eqCells ks a b with
      | some r0 => exact ⟨r0, rfl⟩
      | none => unfold eqCells at h; split at h <;> simp_all
    obtain ⟨r0, h0⟩ := this
    have := eqCells_len ks a b r0 h0
    simp [this]
def VOf (P : Program) (t : TypeId) (x : Value) (xs : List Value) : Prop := (aggT P t = some true ∧ x = .agg xs.toArray) ∨ (aggT P t = some false ∧ xs = [x])
section
variable {P : Program} {fid : Nat → Nat} {m : Mp} {S : Nat → Prop} {w : World}
theorem aggT_isAgg {t : TypeId} {ag : Bool} (ha : aggT P t = some ag) : (isAgg t).run P w = .ok ag w := by
  unfold aggT at ha
  cases hu : P.underlying t with
  | none => simp [hu] at ha
  | some d => cases d <;> simp_all [isAgg, underlying]
theorem part_VOf {t : TypeId} {s o : Nat} {xs : List Value} (hz : szT P t = some s) (ha : ∃ ag, aggT P t = some ag) (h1 : aggT P t = some false → s = 1) (hl : o + s ≤ xs.length) :
    ∃ u, (part t xs.toArray o).run P w = .ok u w ∧ VOf P t u ((xs.drop o).take s) := by
  obtain ⟨ag, ha⟩ := ha
  cases ag with
  | true =>
    refine ⟨.agg ((xs.drop o).take s).toArray, ?_, .inl ⟨ha, rfl⟩⟩
    simp [part, aggT_isAgg ha, run_sizeOf' hz, List.extract_eq_take_drop]
  | false =>
    have hs := h1 ha
    subst hs
    have hlt : o < xs.length := by omega
    refine ⟨xs[o], ?_, .inr ⟨ha, ?_⟩⟩
    · simp [part, aggT_isAgg ha, List.getElem?_eq_getElem hlt]
    · rw [List.drop_eq_getElem_cons hlt, List.take_succ_cons, List.take_zero]
theorem kinds_agg {n : Nat} {t : TypeId} {ks : List Nat} (h : kinds P n t = some ks) : ∃ ag, aggT P t = some ag ∧ (ag = false → ks.length = 1) := by
  cases n with
  | zero => simp [kinds] at h
  | succ n =>
    unfold kinds at h
    unfold aggT
    split at h <;> simp_all
    all_goals (rw [← h]; rfl)
def EqAt' (P : Program) (fid : Nat → Nat) (m : Mp) (S : Nat → Prop) (w : World) (n : Nat) : Prop :=
  ∀ (t : TypeId) (ks : List Nat), kinds P n t = some ks → P.stoodInHeld t = false → ∀ (d : Nat), n ≤ d → ∀ (xs ys : List Value) (cs cs' : List AV) (r : Bool) (x y : Value),
    RepL fid m S w cs xs → RepL fid m S w cs' ys → eqCells ks cs cs' = some r → VOf P t x xs → VOf P t y ys → (Op.equalIn d t x y).run P w = .ok r w
theorem eqPart_ok {n : Nat} (ih : EqAt' P fid m S w n) {t : TypeId} {ks : List Nat} {s o d : Nat} (hk : kinds P n t = some ks) (hst : P.stoodInHeld t = false) (hz : szT P t = some s) (hs : ks.length = s) (hd : n ≤ d)
    {xs ys : List Value} {cs cs' : List AV} (h1 : RepL fid m S w cs xs) (h2 : RepL fid m S w cs' ys) {r : Bool} (he : eqCells ks ((cs.drop o).take s) ((cs'.drop o).take s) = some r) :
    ∃ u u', (part t xs.toArray o).run P w = .ok u w ∧ (part t ys.toArray o).run P w = .ok u' w ∧ (Op.equalIn d t u u').run P w = .ok r w := by
  obtain ⟨ag, ha, h1s⟩ := kinds_agg hk
  obtain ⟨l1, l2⟩ := eqCells_len _ _ _ _ he
  have q1 := repL_len _ _ h1
  have q2 := repL_len _ _ h2
  simp only [List.length_take, List.length_drop] at l1 l2
  have hs1 : aggT P t = some false → s = 1 := fun h => by
    rw [h] at ha
    injection ha with ha
    rw [← hs]; exact h1s ha.symm
  have hl1 : o + s ≤ xs.length ∨ s = 0 := by omega
  have hl2 : o + s ≤ ys.length ∨ s = 0 := by omega
  have get : ∀ (zs : List Value), (o + s ≤ zs.length ∨ s = 0) → ∃ u, (part t zs.toArray o).run P w = .ok u w ∧ VOf P t u ((zs.drop o).take s) := by
    intro zs hl
    rcases hl with hl | hl
    · exact part_VOf hz ⟨ag, ha⟩ hs1 hl
    · subst hl
      cases ag with
      | false => have := hs1 ha; omega
      | true =>
        refine ⟨.agg ((zs.drop o).take 0).toArray, ?_, .inl ⟨ha, rfl⟩⟩
        simp [part, aggT_isAgg ha, run_sizeOf' hz]
  obtain ⟨u, p1, v1⟩ := get xs hl1
  obtain ⟨u', p2, v2⟩ := get ys hl2
  exact ⟨u, u', p1, p2, ih t ks hk hst d hd _ _ _ _ r u u' (repL_take s (repL_drop o h1)) (repL_take s (repL_drop o h2)) he v1 v2⟩
theorem eqFields_ok {n : Nat} (ih : EqAt' P fid m S w n) {d : Nat} (hd : n ≤ d) {xs ys : List Value} {cs cs' : List AV} (h1 : RepL fid m S w cs xs) (h2 : RepL fid m S w cs' ys) :
    ∀ (fs : List Field) (o : Nat) (ks : List Nat) (r : Bool), fieldKinds P (fun u => kinds P n u) fs o = some ks → eqCells ks (cs.drop o) (cs'.drop o) = some r → (Op.eqFields d xs.toArray ys.toArray fs).run P w = .ok r w
  | [], o, ks, r, h, he => by
    simp only [fieldKinds, Option.some.injEq] at h
    subst h
    unfold eqCells at he
    split at he <;> simp_all [Op.eqFields]
  | f :: fs, o, ks, r, h, he => by
    simp only [fieldKinds] at h
    cases hk : kinds P n f.type with
    | none => simp [hk] at h
    | some kf =>
      cases hz : szT P f.type with
      | none => simp [hk, hz] at h
      | some s =>
        simp only [hk, hz] at h
        cases hc : (f.name != "_" && Nat.beq f.offset o && Nat.beq kf.length s && !P.stoodInHeld f.type) with
        | false => rw [hc] at h; cases h
        | true =>
          rw [hc] at h
          simp only [cond_true] at h
          simp only [Bool.and_eq_true, bne_iff_ne, Bool.not_eq_true'] at hc
          obtain ⟨⟨⟨hn, ho⟩, hl⟩, hst⟩ := hc
          have ho := Nat.eq_of_beq_eq_true ho
          have hl := Nat.eq_of_beq_eq_true hl
          cases hr : fieldKinds P (fun u => kinds P n u) fs (o + s) with
          | none => simp [hr] at h
          | some kr =>
            simp only [hr, Option.some.injEq] at h
            subst h
            obtain ⟨r1, r2, e1, e2, rfl⟩ := eqCells_append _ _ _ _ _ he
            rw [hl] at e1 e2
            rw [List.drop_drop, List.drop_drop] at e2
            obtain ⟨u, u', p1, p2, p3⟩ := eqPart_ok ih (o := o) hk hst hz hl hd h1 h2 e1
            have rest := eqFields_ok ih hd h1 h2 fs (o + s) kr r2 hr e2
            subst ho
            simp only [Op.eqFields]
            cases r1 with
            | true => simp [hn, p1, p2, p3, rest]
            | false => simp [hn, p1, p2, p3]
theorem eqItems_ok {n : Nat} (ih : EqAt' P fid m S w n) {d : Nat} (hd : n ≤ d) {xs ys : List Value} {cs cs' : List AV} (h1 : RepL fid m S w cs xs) (h2 : RepL fid m S w cs' ys)
    {e : TypeId} {ks : List Nat} {s : Nat} (hk : kinds P n e = some ks) (hst : P.stoodInHeld e = false) (hz : szT P e = some s) (hl : ks.length = s) :
    ∀ (k j : Nat) (r : Bool), eqCells (List.replicate k ks).flatten (cs.drop (j * s)) (cs'.drop (j * s)) = some r → (Op.eqItems d e s xs.toArray ys.toArray (List.range' j k)).run P w = .ok r w
  | 0, j, r, he => by
    unfold eqCells at he
    split at he <;> simp_all [Op.eqItems]
  | k + 1, j, r, he => by
    rw [List.replicate_succ, List.flatten_cons] at he
    obtain ⟨r1, r2, e1, e2, rfl⟩ := eqCells_append _ _ _ _ _ he
    rw [hl] at e1 e2
    rw [List.drop_drop, List.drop_drop, show j * s + s = (j + 1) * s by rw [Nat.add_mul, Nat.one_mul]] at e2
    obtain ⟨u, u', p1, p2, p3⟩ := eqPart_ok ih (o := j * s) hk hst hz hl hd h1 h2 e1
    have rest := eqItems_ok ih hd h1 h2 hk hst hz hl k (j + 1) r2 e2
    rw [List.range'_succ]
    simp only [Op.eqItems]
    cases r1 with
    | true => simp [p1, p2, p3, rest]
    | false => simp [p1, p2, p3]
theorem eqK_ok : ∀ (n : Nat) (t : TypeId) (ks : List Nat), kinds P n t = some ks → P.stoodInHeld t = false → ∀ (d : Nat), n ≤ d → ∀ (xs ys : List Value) (cs cs' : List AV) (r : Bool) (x y : Value),
    RepL fid m S w cs xs → RepL fid m S w cs' ys → eqCells ks cs cs' = some r → VOf P t x xs → VOf P t y ys → (Op.equalIn d t x y).run P w = .ok r w
  | 0, t, ks, h, _, _, _, _, _, _, _, _, _, _, _, _, _, _, _ => by simp [kinds] at h
  | n + 1, t, ks, h, hst, 0, hd, _, _, _, _, _, _, _, _, _, _, _, _ => by omega
  | n + 1, t, ks, h, hst, d + 1, hd, xs, ys, cs, cs', r, x, y, h1, h2, he, hx, hy => by
    unfold kinds at h
    have one : ∀ {k : Nat}, ks = [k] → aggT P t = some false → ∃ c c' , cs = [c] ∧ cs' = [c'] ∧ Rep fid m S w c x ∧ Rep fid m S w c' y := by
      intro k hk ha
      rcases hx with ⟨hx, _⟩ | ⟨_, rfl⟩
      · rw [ha] at hx; cases hx
      rcases hy with ⟨hy, _⟩ | ⟨_, rfl⟩
      · rw [ha] at hy; cases hy
      have l1 := repL_len _ _ h1
      have l2 := repL_len _ _ h2
      match cs, cs', l1, l2 with
      | [c], [c'], _, _ =>
        simp only [RepL] at h1 h2
        obtain ⟨u, q, e1, e2, _⟩ := h1
        obtain ⟨u', q', e1', e2', _⟩ := h2
        simp only [List.cons.injEq] at e1 e1'
        obtain ⟨rfl, _⟩ := e1
        obtain ⟨rfl, _⟩ := e1'
        exact ⟨c, c', rfl, rfl, e2, e2'⟩
    split at h
    · rename_i hu
      simp only [Option.some.injEq] at h
      have ha : aggT P t = some false := by simp [aggT, hu]
      obtain ⟨c, c', rfl, rfl, r1, r2⟩ := one h.symm ha
      subst h
      unfold eqCells at he
      split at he <;> simp_all [eqCells]
      subst he
      simp only [Rep] at r1 r2
      subst r1; subst r2
      simp [Op.equalIn, run_underlying hu]
    · rename_i k0 hu
      simp only [Option.some.injEq] at h
      have ha : aggT P t = some false := by simp [aggT, hu]
      obtain ⟨c, c', rfl, rfl, r1, r2⟩ := one h.symm ha
      subst h
      unfold eqCells at he
      split at he <;> simp_all [eqCells]
      obtain ⟨hk, he⟩ := he
      subst he
      simp only [Rep] at r1 r2
      subst r1; subst r2
      simp [Op.equalIn, run_underlying hu]
    · rename_i hu
      simp only [Option.some.injEq] at h
      have ha : aggT P t = some false := by simp [aggT, hu]
      obtain ⟨c, c', rfl, rfl, r1, r2⟩ := one h.symm ha
      subst h
      unfold eqCells at he
      split at he <;> simp_all [eqCells]
      subst he
      simp only [Rep] at r1 r2
      obtain ⟨s, rfl, rfl⟩ := r1
      obtain ⟨s', rfl, rfl⟩ := r2
      simp only [Op.equalIn, Sem.run_bind, run_underlying hu, Result.andThen_ok, Sem.run_pure, beq_bytes]
      rfl
    · rename_i fs hu
      have ha : aggT P t = some true := by simp [aggT, hu]
      rcases hx with ⟨_, rfl⟩ | ⟨hx, _⟩
      · rcases hy with ⟨_, rfl⟩ | ⟨hy, _⟩
        · have hf : P.fieldsOf t = fs := by simp [Program.fieldsOf, hu]
          rw [run_equalIn_struct w d t _ _ (by rw [hf]; exact hu) hst, hf]
          exact eqFields_ok (eqK_ok n) (by omega) h1 h2 fs.toList 0 ks r h (by simpa using he)
        · rw [ha] at hy; cases hy
      · rw [ha] at hx; cases hx
    · rename_i k e hu
      have ha : aggT P t = some true := by simp [aggT, hu]
      rcases hx with ⟨_, rfl⟩ | ⟨hx, _⟩
      · rcases hy with ⟨_, rfl⟩ | ⟨hy, _⟩
        · cases hk : kinds P n e with
          | none => simp [hk] at h
          | some ke =>
            cases hz : szT P e with
            | none => simp [hk, hz] at h
            | some s =>
              simp only [hk, hz] at h
              cases hc : (Nat.beq ke.length s && !P.stoodInHeld e) with
              | false => rw [hc] at h; cases h
              | true =>
                rw [hc] at h
                simp only [cond_true, Option.some.injEq] at h
                subst h
                simp only [Bool.and_eq_true, Bool.not_eq_true'] at hc
                have hz' := hz
                unfold szT at hz'
                cases hi : P.info? e with
                | none => simp [hi] at hz'
                | some i =>
                  simp only [hi, Option.some.injEq] at hz'
                  have hcs : P.cellsOf e = s := by simp [Program.cellsOf, hi, hz']
                  rw [run_equalIn_array w d _ _ hu hi, hcs, List.range_eq_range']
                  exact eqItems_ok (eqK_ok n) (by omega) h1 h2 hk hc.2 hz (Nat.eq_of_beq_eq_true hc.1) k 0 r (by simpa using he)
        · rw [ha] at hy; cases hy
      · rw [ha] at hx; cases hx
    · cases h
end
end VE
end
section
namespace VE
open Go
theorem bad_none {tm : Env} {hp : Hp} {v : AV} (h : evRead tm hp bad = some v) : False := by simp [bad, evRead] at h
section
variable {Λ : Link} {H : Hint} {m : Mp} {S : Nat → Prop} {w : World} {tm : Env} {a : Act} {hp : Hp} {ct : Nat}
theorem min2_ok {fid : Nat → Nat} {va vb v : AV} {x y : Value} (hx : Rep fid m S w va x) (hy : Rep fid m S w vb y) (h : VE.min2 va vb = some v) : ∃ u, (Builtin.min2 x y).run Λ.P w = .ok u w ∧ Rep fid m S w v u := by
  unfold VE.min2 at h
  split at h
  · simp only [Rep] at hx hy
    subst hx; subst hy
    simp only [Option.some.injEq] at h
    subst h
    exact ⟨_, by simp only [Builtin.min2, Sem.run_pure]; rfl, by simp only [Rep]⟩
  · rename_i k p k' q
    simp only [Rep] at hx hy
    subst hx; subst hy
    cases ho : k.format.order p q with
    | none => simp [ho] at h
    | some c => cases c <;> (simp only [ho, Option.some.injEq] at h; subst h; exact ⟨_, by simp only [Builtin.min2, ho, Sem.run_pure]; rfl, by simp only [Rep]⟩)
  · cases h
theorem max2_ok {fid : Nat → Nat} {va vb v : AV} {x y : Value} (hx : Rep fid m S w va x) (hy : Rep fid m S w vb y) (h : VE.max2 va vb = some v) : ∃ u, (Builtin.max2 x y).run Λ.P w = .ok u w ∧ Rep fid m S w v u := by
  unfold VE.max2 at h
  split at h
  · simp only [Rep] at hx hy
    subst hx; subst hy
    simp only [Option.some.injEq] at h
    subst h
    exact ⟨_, by simp only [Builtin.max2, Sem.run_pure]; rfl, by simp only [Rep]⟩
  · rename_i k p k' q
    simp only [Rep] at hx hy
    subst hx; subst hy
    cases ho : k.format.order p q with
    | none => simp [ho] at h
    | some c => cases c <;> (simp only [ho, Option.some.injEq] at h; subst h; exact ⟨_, by simp only [Builtin.max2, ho, Sem.run_pure]; rfl, by simp only [Rep]⟩)
  · cases h
theorem fold_ok {fid : Nat → Nat} {f : AV → AV → Option AV} {g : Value → Value → Sem Value} (hfg : ∀ va vb v x y, Rep fid m S w va x → Rep fid m S w vb y → f va vb = some v → ∃ u, (g x y).run Λ.P w = .ok u w ∧ Rep fid m S w v u) :
    ∀ (l : List AV) (us : List Value) (va v : AV) (x : Value), Rep fid m S w va x → RepL fid m S w l us → foldO f va l = some v → ∃ u, (us.foldlM g x).run Λ.P w = .ok u w ∧ Rep fid m S w v u
  | [], us, va, v, x, hx, hl, h => by
    simp only [RepL] at hl
    subst hl
    simp only [foldO, Option.some.injEq] at h
    subst h
    exact ⟨x, by simp, hx⟩
  | b :: l, us, va, v, x, hx, hl, h => by
    simp only [RepL] at hl
    obtain ⟨u, r, rfl, hu, hr⟩ := hl
    simp only [foldO] at h
    cases hf : f va b with
    | none => simp [hf] at h
    | some c =>
      simp only [hf] at h
      obtain ⟨u1, h1, h2⟩ := hfg _ _ _ _ _ hx hu hf
      obtain ⟨u2, h3, h4⟩ := fold_ok hfg l r c v u1 h2 hr h
      exact ⟨u2, by simp [h1, h3], h4⟩
theorem len_ok {t : TypeId} {vx v : AV} {x : Value} {ty : TypeId} (hh : HRel Λ m S w hp ct) (hx : Rep Λ.fid m S w vx x)
    {k : Nat} (hu : (k = 0 ∧ Λ.P.underlying t = some .string) ∨ (k = 1 ∧ ∃ e, Λ.P.underlying t = some (.slice e)) ∨ (k = 2 ∧ ∃ kt e, Λ.P.underlying t = some (.map kt e)))
    (h : lenOp hp k vx = some v) : ∃ u, (Builtin.len_ #[t] ty #[x]).run Λ.P w = .ok u w ∧ Rep Λ.fid m S w v u := by
  rcases hu with ⟨rfl, hu⟩ | ⟨rfl, e, hu⟩ | ⟨rfl, kt, e, hu⟩
  all_goals cases vx <;> simp only [lenOp, reduceCtorEq] at h
  case inl.str s =>
    simp only [Rep] at hx
    obtain ⟨b, rfl, rfl⟩ := hx
    simp only [Option.some.injEq] at h
    subst h
    refine ⟨_, by simp [Builtin.len_, run_underlying hu]; rfl, ?_⟩
    simp only [Rep, goInt]
    rw [Lib.size_eq]; simp
  case inr.inl.nils =>
    simp only [Rep] at hx
    subst hx
    simp only [Option.some.injEq] at h
    subst h
    exact ⟨_, by simp [Builtin.len_, run_underlying hu]; rfl, by simp [Rep, goInt]⟩
  case inr.inl.vsl ex n cs =>
    simp only [Rep] at hx
    rcases hx with ⟨b, o, c, rfl, _⟩ | ⟨a, rfl, rfl, rfl⟩
    all_goals
      simp only [Option.some.injEq] at h
      subst h
      exact ⟨_, by simp [Builtin.len_, run_underlying hu]; rfl, by simp [Rep, goInt]⟩
  case inr.inl.osl id o n =>
    simp only [Rep] at hx
    obtain ⟨p, c, _, rfl, _⟩ := hx
    simp only [Option.some.injEq] at h
    subst h
    exact ⟨_, by simp [Builtin.len_, run_underlying hu]; rfl, by simp [Rep, goInt]⟩
  case inr.inr.nilm =>
    simp only [Rep] at hx
    subst hx
    simp only [Option.some.injEq] at h
    subst h
    exact ⟨_, by simp [Builtin.len_, run_underlying hu]; rfl, by simp [Rep, goInt]⟩
  case inr.inr.vmap ks vs =>
    simp only [Rep] at hx
    obtain ⟨b, es, clock, rfl, _, _, _, hb, h1, _⟩ := hx
    simp only [Option.some.injEq] at h
    subst h
    refine ⟨_, by simp [Builtin.len_, run_underlying hu, getObj, Sem.run, hb]; rfl, ?_⟩
    have := repL_len _ _ h1
    simp only [Rep, goInt]
    rw [← this]; simp
  case inr.inr.map id =>
    simp only [Rep] at hx
    obtain ⟨p, hm, rfl⟩ := hx
    split at h
    case h_2 => cases h
    rename_i rw0 ks vs hget0
    simp only [Option.some.injEq] at h
    subst h
    obtain ⟨p', es, clock, hm', hb, h1, _⟩ := hh.obj id _ _ hget0 hm
    rw [hm] at hm'; injection hm' with hm'; subst hm'
    refine ⟨_, by simp [Builtin.len_, run_underlying hu, getObj, Sem.run, hb]; rfl, ?_⟩
    have := repL_len _ _ h1
    simp only [Rep, goInt]
    rw [← this]; simp
end
end VE
end
section
namespace VE
open Go
section
variable {Λ : Link} {H : Hint} {m : Mp} {S : Nat → Prop} {w : World} {tm : Env} {a : Act} {hp : Hp} {ct : Nat}
theorem zero_ok {t : TypeId} {z : AV} (h : zeroT Λ.P t = some z) : ∃ v, (zeroValue t).run Λ.P w = .ok v w ∧ z = valAV v := by
  unfold zeroT at h
  cases hi : Λ.P.info? t with
  | none => simp [hi] at h
  | some i =>
    simp only [hi] at h
    cases hz : i.zero with
    | none => simp [hz] at h
    | some v =>
      simp only [hz, Option.some.injEq] at h
      exact ⟨v, by simp [zeroValue, typeInfo, hi, hz], h.symm⟩
def Reads (Λ : Link) (m : Mp) (S : Nat → Prop) (w : World) (a : Act) (o : Oper) (v : AV) : Prop :=
  ∃ u, (execOp a.eval o).run Λ.P w = .ok (.value u) w ∧ Rep Λ.fid m S w v u
theorem reads_of {o : Oper} {v : AV} {s : Sem Value} (he : execOp a.eval o = (do pure (.value (← s)) : Sem Next)) (h : ∃ u, s.run Λ.P w = .ok u w ∧ Rep Λ.fid m S w v u) : Reads Λ m S w a o v := by
  obtain ⟨u, h1, h2⟩ := h
  exact ⟨u, by rw [he]; simp [h1], h2⟩
theorem read_bin {o : Oper} {op : BinOp} {t ty : TypeId} {x y : Operand} {k : Nat} {v : AV} (hH : HintOk Λ H) (ht : TRel Λ m S w tm a.tmps) (ho : o.op = .binOp op t x y ty)
    (hv : evRead tm hp (compOp Λ.P H k o) = some v) : Reads Λ m S w a o v := by
  have rx := rep_x hH ht x
  have ry := rep_x hH ht y
  have guard : ∀ {u : Value}, (∀ xs ys, ¬ (a.eval x = .agg xs ∧ a.eval y = .agg ys)) ∨ Λ.P.eqGuardType Λ.P.depth t = false → a.eval x ≠ .nilIface → (Go.binOp op t (a.eval x) (a.eval y)).run Λ.P w = .ok u w →
      (do eqGuard op t x y (a.eval x) (a.eval y); Go.binOp op t (a.eval x) (a.eval y) : Sem Value).run Λ.P w = .ok u w := by
    intro u h1 h2 h3
    simp only [Sem.run_bind, eqGuard_ok (P := Λ.P) (w := w) (t := t) (op := op) (x := x) (y := y) (h1.symm) h2, Result.andThen_ok, h3]
  have plain : evRead tm hp (.bin op (opX H x) (opX H y)) = some v → Reads Λ m S w a o v := by
    intro hv
    simp only [evRead] at hv
    obtain ⟨u, h1, h2⟩ := binOp_ok (P := Λ.P) (t := t) rx ry hv
    refine reads_of (s := do eqGuard op t x y (a.eval x) (a.eval y); Go.binOp op t (a.eval x) (a.eval y)) (by simp only [execOp, ho]) ⟨u, guard (.inl ?_) ?_ h1, h2⟩
    · rintro xs ys ⟨e1, e2⟩
      rw [e1] at rx
      unfold VE.binOp at hv
      split at hv
      · rename_i h3 _; rw [h3] at rx; simp [Rep] at rx
      · rename_i h3 _; rw [h3] at rx; simp [Rep] at rx
      · rename_i h3 _; rw [h3] at rx; simp [Rep] at rx
      · cases hv
    · intro e1
      rw [e1] at rx
      unfold VE.binOp at hv
      split at hv
      · rename_i h3 _; rw [h3] at rx; simp [Rep] at rx
      · rename_i h3 _; rw [h3] at rx; simp [Rep] at rx
      · rename_i h3 _; rw [h3] at rx; simp [Rep] at rx
      · cases hv
  have other : ∀ (ne : Bool) (kd : VE.EqK), (op = .eql ∧ ne = false ∨ op = .neq ∧ ne = true) → (∀ r, eqOp kd (xget tm (opX H x)) (xget tm (opX H y)) = some r → (Op.equal t (a.eval x) (a.eval y)).run Λ.P w = .ok r w ∧
        ((∀ xs ys, ¬ (a.eval x = .agg xs ∧ a.eval y = .agg ys)) ∨ Λ.P.eqGuardType Λ.P.depth t = false) ∧ a.eval x ≠ .nilIface ∧
        ∀ q : Bool, (op = .eql → Go.binOp op t (a.eval x) (a.eval y) = (do pure (.bool (← Op.equal t (a.eval x) (a.eval y))))) ∧ (op = .neq → Go.binOp op t (a.eval x) (a.eval y) = (do pure (.bool (!(← Op.equal t (a.eval x) (a.eval y))))))) →
      evRead tm hp (.eq ne kd (opX H x) (opX H y)) = some v → Reads Λ m S w a o v := by
    intro ne kd hop hall hv
    simp only [evRead] at hv
    cases he : eqOp kd (xget tm (opX H x)) (xget tm (opX H y)) with
    | none => simp [he] at hv
    | some r =>
      simp only [he, Option.some.injEq] at hv
      subst hv
      obtain ⟨h1, h2, h3, h4⟩ := hall r he
      obtain ⟨h5, h6⟩ := h4 true
      refine reads_of (s := do eqGuard op t x y (a.eval x) (a.eval y); Go.binOp op t (a.eval x) (a.eval y)) (by simp only [execOp, ho]) ⟨.bool (ne != r), guard h2 h3 ?_, by simp [Rep]⟩
      rcases hop with ⟨rfl, rfl⟩ | ⟨rfl, rfl⟩
      · rw [h5 rfl]; simp [h1]
      · rw [h6 rfl]; simp [h1]
  have pB : Λ.P.underlying t = some .bool → ∀ r, eqOp .b (xget tm (opX H x)) (xget tm (opX H y)) = some r → ∃ p q, a.eval x = .bool p ∧ a.eval y = .bool q ∧ (Op.equal t (a.eval x) (a.eval y)).run Λ.P w = .ok r w := by
    intro hu r he
    cases hx : xget tm (opX H x) <;> cases hy : xget tm (opX H y) <;> rw [hx, hy] at he <;> simp only [eqOp, reduceCtorEq] at he
    rw [hx] at rx; rw [hy] at ry
    simp only [Rep] at rx ry
    simp only [Option.some.injEq] at he
    refine ⟨_, _, rx, ry, ?_⟩
    rw [rx, ry, equal_eq, ← he]
    exact eqB_ok hu
  have pS : ∀ e, Λ.P.underlying t = some (.slice e) → ∀ r, eqOp .sl (xget tm (opX H x)) (xget tm (opX H y)) = some r → ∃ p n c q n' c', a.eval x = .slice p n c ∧ a.eval y = .slice q n' c' ∧ (Op.equal t (a.eval x) (a.eval y)).run Λ.P w = .ok r w := by
    intro e hu r he
    have h1 := eqSl_ok hu rx ry he
    have sl : ∀ {v : AV} {u : Value}, Rep Λ.fid m S w v u → (v = .nils ∨ (∃ a b c, v = .vsl a b c) ∨ ∃ a b c, v = .osl a b c) → ∃ p n c, u = .slice p n c := by
      intro v u hr hv
      rcases hv with rfl | ⟨_, _, _, rfl⟩ | ⟨_, _, _, rfl⟩
      · simp only [Rep] at hr; exact ⟨_, _, _, hr⟩
      · simp only [Rep] at hr
        rcases hr with ⟨b, o, c, hr, _⟩ | ⟨_, hr, _⟩ <;> exact ⟨_, _, _, hr⟩
      · simp only [Rep] at hr; obtain ⟨b, c, _, hr, _⟩ := hr; exact ⟨_, _, _, hr⟩
    have hv2 : (xget tm (opX H x) = .nils ∨ (∃ a b c, xget tm (opX H x) = .vsl a b c) ∨ ∃ a b c, xget tm (opX H x) = .osl a b c) ∧
        (xget tm (opX H y) = .nils ∨ (∃ a b c, xget tm (opX H y) = .vsl a b c) ∨ ∃ a b c, xget tm (opX H y) = .osl a b c) := by
      cases hx : xget tm (opX H x) <;> cases hy : xget tm (opX H y) <;> rw [hx, hy] at he <;> simp [eqOp] at he ⊢
    obtain ⟨p, n, c, e1⟩ := sl rx hv2.1
    obtain ⟨q, n', c', e2⟩ := sl ry hv2.2
    exact ⟨p, n, c, q, n', c', e1, e2, h1⟩
  have pF : ∀ ps rs vr, Λ.P.underlying t = some (.func ps rs vr) → ∀ r, eqOp .fn (xget tm (opX H x)) (xget tm (opX H y)) = some r →
      ((a.eval x = .nilFunc ∨ ∃ f p q, a.eval x = .func f p q) ∧ (a.eval y = .nilFunc ∨ ∃ f p q, a.eval y = .func f p q)) ∧ (Op.equal t (a.eval x) (a.eval y)).run Λ.P w = .ok r w := by
    intro ps rs vr hu r he
    have h1 := eqFn_ok hu rx ry he
    have sl : ∀ {v : AV} {u : Value}, Rep Λ.fid m S w v u → (v = .nilf ∨ (∃ a b c, v = .fn a b c)) → (u = .nilFunc ∨ ∃ f p q, u = .func f p q) := by
      intro v u hr hv
      rcases hv with rfl | ⟨f, _, _, rfl⟩
      · simp only [Rep] at hr; exact .inl hr
      · cases f with
        | f g => simp only [Rep] at hr; obtain ⟨b, c, hr, _⟩ := hr; exact .inr ⟨_, _, _, hr⟩
        | y l => simp only [Rep] at hr; obtain ⟨b, _, hr⟩ := hr; exact .inr ⟨_, _, _, hr⟩
    have hv2 : (xget tm (opX H x) = .nilf ∨ (∃ a b c, xget tm (opX H x) = .fn a b c)) ∧ (xget tm (opX H y) = .nilf ∨ (∃ a b c, xget tm (opX H y) = .fn a b c)) := by
      cases hx : xget tm (opX H x) <;> cases hy : xget tm (opX H y) <;> rw [hx, hy] at he <;> simp [eqOp] at he ⊢
    exact ⟨⟨sl rx hv2.1, sl ry hv2.2⟩, h1⟩
  have pA : ∀ ks, kinds Λ.P 20 t = some ks → aggT Λ.P t = some true → Λ.P.stoodInHeld t = false → ∀ r, eqOp (.ag ks) (xget tm (opX H x)) (xget tm (opX H y)) = some r → ∃ p q, a.eval x = .agg p ∧ a.eval y = .agg q ∧ (Op.equal t (a.eval x) (a.eval y)).run Λ.P w = .ok r w := by
    intro ks hk ha hst r he
    cases hx : xget tm (opX H x) <;> cases hy : xget tm (opX H y) <;> rw [hx, hy] at he <;> simp only [eqOp, reduceCtorEq] at he
    rw [hx] at rx; rw [hy] at ry
    simp only [Rep] at rx ry
    obtain ⟨p, e1, h1⟩ := rx
    obtain ⟨q, e2, h2⟩ := ry
    refine ⟨p, q, e1, e2, ?_⟩
    rw [e1, e2, equal_eq]
    exact eqK_ok 20 t ks hk hst 10000 (by omega) _ _ _ _ r _ _ h1 h2 he (.inl ⟨ha, by simp⟩) (.inl ⟨ha, by simp⟩)
  have eqs : ∀ (ne : Bool), (op = .eql ∧ ne = false ∨ op = .neq ∧ ne = true) → evRead tm hp (compEq Λ.P H ne op t x y) = some v → Reads Λ m S w a o v := by
    intro ne hop hv
    have agg : aggT Λ.P t = some true → evRead tm hp (compAgg Λ.P H ne t x y) = some v → Reads Λ m S w a o v := by
      intro ha hv
      unfold compAgg at hv
      cases hk : kinds Λ.P 20 t with
      | none => rw [hk] at hv; exact (bad_none hv).elim
      | some ks =>
        simp only [hk] at hv
        cases hc : (Λ.P.stoodInHeld t || Λ.P.eqGuardType Λ.P.depth t) with
        | true => rw [hc] at hv; exact (bad_none hv).elim
        | false =>
          rw [hc] at hv
          simp only [cond_false] at hv
          simp only [Bool.or_eq_false_iff] at hc
          refine other ne (.ag ks) hop (fun r hr => ?_) hv
          obtain ⟨p, q, e1, e2, h1⟩ := pA ks hk ha hc.1 r hr
          refine ⟨h1, .inr hc.2, by rw [e1]; simp, fun _ => ?_⟩
          rw [e1, e2]
          exact ⟨fun e => by subst e; rfl, fun e => by subst e; rfl⟩
    unfold compEq at hv
    split at hv
    · exact plain hv
    · exact plain hv
    · exact plain hv
    · rename_i hu
      refine other ne .b hop (fun r hr => ?_) hv
      obtain ⟨p, q, e1, e2, h1⟩ := pB hu r hr
      refine ⟨h1, .inl (by rw [e1]; simp), by rw [e1]; simp, fun _ => ?_⟩
      rw [e1, e2]
      exact ⟨fun e => by subst e; rfl, fun e => by subst e; rfl⟩
    · rename_i e hu
      refine other ne .sl hop (fun r hr => ?_) hv
      obtain ⟨p, n, c, q, n', c', e1, e2, h1⟩ := pS e hu r hr
      refine ⟨h1, .inl (by rw [e1]; simp), by rw [e1]; simp, fun _ => ?_⟩
      rw [e1, e2]
      exact ⟨fun e => by subst e; rfl, fun e => by subst e; rfl⟩
    · rename_i ps rs vr hu
      refine other ne .fn hop (fun r hr => ?_) hv
      obtain ⟨⟨e1, e2⟩, h1⟩ := pF ps rs vr hu r hr
      refine ⟨h1, .inl ?_, ?_, fun _ => ?_⟩
      · rcases e1 with e1 | ⟨_, _, _, e1⟩ <;> rw [e1] <;> simp
      · rcases e1 with e1 | ⟨_, _, _, e1⟩ <;> rw [e1] <;> simp
      · rcases e1 with e1 | ⟨_, _, _, e1⟩ <;> rcases e2 with e2 | ⟨_, _, _, e2⟩ <;> rw [e1, e2] <;> exact ⟨fun e => by subst e; rfl, fun e => by subst e; rfl⟩
    · rename_i fs hu
      exact agg (by simp [aggT, hu]) hv
    · rename_i k0 e hu
      exact agg (by simp [aggT, hu]) hv
    · exact (bad_none hv).elim
  cases op
  case eql => exact eqs false (.inl ⟨rfl, rfl⟩) (by simpa only [compOp, ho] using hv)
  case neq => exact eqs true (.inr ⟨rfl, rfl⟩) (by simpa only [compOp, ho] using hv)
  all_goals exact plain (by simpa only [compOp, ho] using hv)
end
end VE
end
