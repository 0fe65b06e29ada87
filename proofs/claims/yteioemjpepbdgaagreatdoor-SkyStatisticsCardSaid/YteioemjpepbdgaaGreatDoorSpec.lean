import Derived.Test.YteioemjpepbdgaaGreatDoorWrite
set_option linter.all false
section
namespace VE
open Go
structure Calm (w w' : World) : Prop where
  os : w'.os = w.os
  tape : w'.tape = w.tape
  output : w'.output = w.output
  size : w.heap.size ≤ w'.heap.size
  same : ∀ b, b < w.heap.size → w'.heap[b]? = w.heap[b]?
theorem Calm.refl {w : World} : Calm w w := ⟨rfl, rfl, rfl, Nat.le_refl _, fun _ _ => rfl⟩
theorem Calm.trans {w w' w'' : World} (h : Calm w w') (k : Calm w' w'') : Calm w w'' :=
  ⟨k.os.trans h.os, k.tape.trans h.tape, k.output.trans h.output, Nat.le_trans h.size k.size, fun b hb => (k.same b (Nat.lt_of_lt_of_le hb h.size)).trans (h.same b hb)⟩
def GoodW (Λ : Link) (w : World) : Prop := (∀ b, b < Λ.w0.heap.size → w.heap[b]? = Λ.w0.heap[b]?) ∧ Λ.w0.heap.size ≤ w.heap.size
def noM : Mp := fun _ => none
def Res1 (fid : Nat → Nat) (S : Nat → Prop) (w : World) (lo : Nat) : AV → Value → List Nat → Prop
  | .fsl ex sz n cs, u, bs => ∃ b o c arr t, bs = [b] ∧ u = .slice (some ⟨b, o, none⟩) n c ∧ n ≤ c ∧ (ex = true → c = n) ∧ lo ≤ b ∧ ¬ S b ∧ w.heap[b]? = some (.cells arr t (0, 0)) ∧ cs.length = n * sz ∧
      o + c * sz ≤ arr.size ∧ RepAt fid noM S w cs b o ∧ pureL cs = true
  | r, u, bs => bs = [] ∧ Rep fid noM S w r u ∧ pureAV r = true
def ResL (fid : Nat → Nat) (S : Nat → Prop) (w : World) (lo : Nat) : List AV → List Value → List Nat → Prop
  | [], us, bs => us = [] ∧ bs = []
  | v :: r, us, bs => ∃ u t b1 b2, us = u :: t ∧ bs = b1 ++ b2 ∧ Res1 fid S w lo v u b1 ∧ ResL fid S w lo r t b2
def ResV (fid : Nat → Nat) (S : Nat → Prop) (w : World) (lo : Nat) (r : AV) (u : Value) : Prop :=
  match r with
  | .tup vs => ∃ (us : Array Value) (bs : List Nat), u = .tuple us ∧ ResL fid S w lo vs us.toList bs ∧ bs.Nodup
  | r => ∃ bs, Res1 fid S w lo r u bs
def Invoked (P : Program) (f : FuncId) (args : Array Value) (w : World) (R : Ending → World → Prop) : Prop :=
  ((callFunc f args).run P w = .ok (.enter f args) w ∧ CallsIn Fence.wide 0 P f args w R) ∨ ∃ u w', (callFunc f args).run P w = .ok (.value u) w' ∧ R (.returned u) w'
def PurePost (Λ : Link) (w : World) (S : Nat → Prop) (r : AV) (e : Ending) (w' : World) : Prop :=
  ∃ u S', e = .returned u ∧ Calm w w' ∧ (∀ b, S b → S' b) ∧ (∀ b, S' b → S b ∨ w.heap.size ≤ b) ∧ (∀ b, S' b → b < w'.heap.size) ∧ ResV Λ.fid S' w' w.heap.size r u
def PureC (Λ : Link) (n : Nat) (vals : List AV) (r : AV) : Prop :=
  ∀ (w : World) (S : Nat → Prop) (args : Array Value), GoodW Λ w → (∀ b, S b → b < w.heap.size) → RepL Λ.fid noM S w vals args.toList → pureL vals = true →
    Invoked Λ.P (Λ.fid n) args w (PurePost Λ w S r)
def HeapPost (Λ : Link) (m : Mp) (S : Nat → Prop) (w : World) (hp : Hp) (ct : Nat) (v : AV) (hp' : Hp) (ct' : Nat) (e : Ending) (w' : World) : Prop :=
  ∃ u m' S', e = .returned u ∧ HRel Λ m' S' w' hp' ct' ∧ ct ≤ ct' ∧ Rep Λ.fid m' S' w' v u ∧ Fwd m S w hp m' S' w' hp' ct
def HeapC (Λ : Link) (n : Nat) (hp : Hp) (ct : Nat) (vals : List AV) (v : AV) (hp' : Hp) (ct' : Nat) : Prop :=
  ∀ (m : Mp) (S : Nat → Prop) (w : World) (args : Array Value), HRel Λ m S w hp ct → RepL Λ.fid m S w vals args.toList → Invoked Λ.P (Λ.fid n) args w (HeapPost Λ m S w hp ct v hp' ct')
section
variable {fid : Nat → Nat} {m m' : Mp} {S S' : Nat → Prop} {w w' : World}
mutual
theorem rep_pure (hS : ∀ b, S b → S' b) (hw : SameOn S w w') : ∀ (v : AV) (u : Value), pureAV v = true → Rep fid m S w v u → Rep fid m' S' w' v u
  | .int _ _, _, _, h | .bool _, _, _, h | .flt _ _, _, _, h | .str _, _, _, h | .nilp, _, _, h | .nils, _, _, h | .nilf, _, _, h | .nilm, _, _, h | .undef, _, _, h => by
    simpa only [Rep] using h
  | .ptr id o, u, hp, h => by simp [pureAV] at hp
  | .vptr cs, u, hp, h => by
    simp only [Rep] at h ⊢
    obtain ⟨b, o, h1, h2, h3, h4⟩ := h
    refine ⟨b, o, h1, h2.imp id (hS b), h3, ?_⟩
    rcases h2 with rfl | h2
    · simp only [RepAt]
    · exact repAt_pure hS hw cs b o h3 h2 h4
  | .vsl ex n cs, u, hp, h => by
    simp only [Rep] at h ⊢
    rcases h with ⟨b, o, c, h1, h2, h3, h4, h5, h6⟩ | h
    · refine .inl ⟨b, o, c, h1, h2, h3, h4.imp id (hS b), h5, ?_⟩
      rcases h4 with rfl | h4
      · simp only [RepAt]
      · exact repAt_pure hS hw cs b o h5 h4 h6
    · exact .inr h
  | .fsl _ _ _ _, u, hp, h => by simp [pureAV] at hp
  | .osl id o n, u, hp, h => by simp [pureAV] at hp
  | .fn (.f g) first cap, u, hp, h => by
    simp only [Rep] at h ⊢
    simp only [pureAV, Bool.and_eq_true] at hp
    obtain ⟨fi, ca, h1, h2, h3⟩ := h
    exact ⟨fi, ca, h1, repL_pure hS hw first _ hp.1 h2, repL_pure hS hw cap _ hp.2 h3⟩
  | .fn (.y l) _ _, u, hp, h => by simp [pureAV] at hp
  | .map id, u, hp, h => by simp [pureAV] at hp
  | .vmap ks vs, u, hp, h => by
    simp only [Rep] at h ⊢
    obtain ⟨b, es, clock, h1, h2, h3, h4, h5, h6, h7⟩ := h
    exact ⟨b, es, clock, h1, hS b h2, h3, h4, (hw b h2).trans h5, repL_pure hS hw ks _ h3 h6, repL_pure hS hw vs _ h4 h7⟩
  | .it id, u, hp, h => by simp [pureAV] at hp
  | .agg cs, u, hp, h => by
    simp only [Rep] at h ⊢
    simp only [pureAV] at hp
    obtain ⟨xs, h1, h2⟩ := h; exact ⟨xs, h1, repL_pure hS hw cs _ hp h2⟩
  | .tup cs, u, hp, h => by
    simp only [Rep] at h ⊢
    simp only [pureAV] at hp
    obtain ⟨xs, h1, h2⟩ := h; exact ⟨xs, h1, repL_pure hS hw cs _ hp h2⟩
theorem repL_pure (hS : ∀ b, S b → S' b) (hw : SameOn S w w') : ∀ (vs : List AV) (us : List Value), pureL vs = true → RepL fid m S w vs us → RepL fid m' S' w' vs us
  | [], us, _, h => by simpa only [RepL] using h
  | v :: r, us, hp, h => by
    simp only [RepL] at h ⊢
    simp only [pureL, Bool.and_eq_true] at hp
    obtain ⟨u, t, h1, h2, h3⟩ := h
    exact ⟨u, t, h1, rep_pure hS hw v u hp.1 h2, repL_pure hS hw r t hp.2 h3⟩
theorem repAt_pure (hS : ∀ b, S b → S' b) (hw : SameOn S w w') : ∀ (cs : List AV) (b o : Nat), pureL cs = true → S b → RepAt fid m S w cs b o → RepAt fid m' S' w' cs b o
  | [], _, _, _, _, _ => by simp only [RepAt]
  | c :: cs, b, o, hp, hb, h => by
    simp only [RepAt] at h ⊢
    simp only [pureL, Bool.and_eq_true] at hp
    obtain ⟨⟨u, h1, h2⟩, h3⟩ := h
    exact ⟨⟨u, (cell_of_same (hw b hb)).trans h1, rep_pure hS hw c u hp.1 h2⟩, repAt_pure hS hw cs b (o + 1) hp.2 hb h3⟩
end
theorem repAt_pure' (hS : ∀ b, S b → S' b) (hw : SameOn S w w') : ∀ (cs : List AV) (b o : Nat), pureL cs = true → w'.heap[b]? = w.heap[b]? → RepAt fid m S w cs b o → RepAt fid m' S' w' cs b o
  | [], _, _, _, _, _ => by simp only [RepAt]
  | c :: cs, b, o, hp, hb, h => by
    simp only [RepAt] at h ⊢
    simp only [pureL, Bool.and_eq_true] at hp
    obtain ⟨⟨u, h1, h2⟩, h3⟩ := h
    exact ⟨⟨u, (cell_of_same hb).trans h1, rep_pure hS hw c u hp.1 h2⟩, repAt_pure' hS hw cs b (o + 1) hp.2 hb h3⟩
end
section
variable {Λ : Link} {m : Mp} {S S' : Nat → Prop} {w w' : World} {hp : Hp} {ct : Nat}
theorem same_calm (hh : HRel Λ m S w hp ct) (hw : Calm w w') : SameOn S w w' := fun b hb => hw.same b (hh.slt b hb)
theorem hrel_calm (hh : HRel Λ m S w hp ct) (hw : Calm w w') (hS : ∀ b, S b → S' b) (hn : ∀ b, S' b → S b ∨ w.heap.size ≤ b) (hl : ∀ b, S' b → b < w'.heap.size) : HRel Λ m S' w' hp ct where
  obj id o p ho hm := orel_mono (fun _ _ h => h) hS (same_calm hh hw) (fun q hq => hw.same _ (hh.blt id q hq)) (fun q hq hs => (hn _ hs).resolve_right (by have := hh.blt id q hq; omega)) (hh.obj id o p ho hm)
  lt := hh.lt
  inj := hh.inj
  slt := hl
  blt id p h := Nat.lt_of_lt_of_le (hh.blt id p h) hw.size
  low := hh.low
  good b hb := (hw.same b (Nat.lt_of_lt_of_le hb hh.goodS)).trans (hh.good b hb)
  goodS := Nat.le_trans hh.goodS hw.size
  hlt := hh.hlt
theorem fwd_calm {base : Nat} (hh : HRel Λ m S w hp ct) (hw : Calm w w') (hS : ∀ b, S b → S' b) (hn : ∀ b, S' b → S b ∨ w.heap.size ≤ b) : Fwd m S w hp m S' w' hp base where
  os := hw.os
  tape := hw.tape
  output := hw.output
  size := hw.size
  same b hb _ := hw.same b hb
  sub := hS
  still b hb := hw.same b (hh.slt b hb)
  new b hb := (hn b hb).imp id .inr
  own b hb := .inl hb
  old _ _ _ h := h
  loops b r hb := ⟨r, (hw.same b (Array.getElem?_eq_some_iff.1 hb).1).trans hb⟩
theorem hrel_add {i : Nat} (hh : HRel Λ m S w hp ct) (hi : m i = none) (hic : i < ct) {p : Pl} (hb : p.b < w.heap.size) (hlo : Λ.w0.heap.size ≤ p.b) (hns : ¬ S p.b) (hno : ∀ j q, m j = some q → q.b ≠ p.b)
    (hf : ∀ o, hget hp i = some o → (ORel Λ (addM m i p) S w i o ∧ ¬ frozenO o) ∨ (frozenO o ∧ ORel Λ (addM m i p) (fun b => S b ∨ b = p.b) w i o)) :
    ∃ S', HRel Λ (addM m i p) S' w hp ct ∧ (∀ b, S b → S' b) ∧ ∀ b, S' b → S b ∨ b = p.b := by
  have hst : SameOn S w w := fun _ _ => rfl
  have gen : ∀ S' : Nat → Prop, (∀ b, S b → S' b) → (∀ b, S' b → S b ∨ b = p.b) → (∀ o, hget hp i = some o → ORel Λ (addM m i p) S' w i o) → HRel Λ (addM m i p) S' w hp ct := by
    intro S' h1 h2 h3
    refine ⟨?_, ?_, ?_, ?_, ?_, ?_, hh.good, hh.goodS, hh.hlt⟩
    · intro id o q ho hm
      by_cases hc : id = i
      · subst hc; exact h3 o ho
      · rw [addM_other hc] at hm
        refine orel_mono (addM_le hi) h1 hst (fun _ _ => rfl) (fun q' hq' hs => ?_) (hh.obj id o q ho hm)
        exact (h2 _ hs).resolve_right (hno id q' hq')
    · intro id q hm
      by_cases hc : id = i
      · subst hc; exact hic
      · rw [addM_other hc] at hm; exact hh.lt id q hm
    · intro a b oa ob pa pb ha hb' hma hmb' e
      by_cases ca : a = i
      · by_cases cb : b = i
        · rw [ca, cb]
        · subst ca
          rw [addM_same] at hma
          rw [addM_other cb] at hmb'
          injection hma with hma
          subst hma
          exact (hno b pb hmb' e.symm).elim
      · rw [addM_other ca] at hma
        by_cases cb : b = i
        · subst cb
          rw [addM_same] at hmb'
          injection hmb' with hmb'
          subst hmb'
          exact (hno a pa hma e).elim
        · rw [addM_other cb] at hmb'
          exact hh.inj a b oa ob pa pb ha hb' hma hmb' e
    · intro b hs
      rcases h2 b hs with h | h
      · exact hh.slt b h
      · rw [h]; exact hb
    · intro id q hm
      by_cases hc : id = i
      · subst hc
        rw [addM_same] at hm
        injection hm with hm
        subst hm
        exact hb
      · rw [addM_other hc] at hm; exact hh.blt id q hm
    · intro id q hm
      by_cases hc : id = i
      · subst hc
        rw [addM_same] at hm
        injection hm with hm
        subst hm
        exact hlo
      · rw [addM_other hc] at hm; exact hh.low id q hm
  cases ho : hget hp i with
  | none => exact ⟨S, gen S (fun _ h => h) (fun _ h => .inl h) (fun o h => by rw [ho] at h; cases h), fun _ h => h, fun _ h => .inl h⟩
  | some o =>
    rcases hf o ho with ⟨h1, _⟩ | ⟨_, h1⟩
    · exact ⟨S, gen S (fun _ h => h) (fun _ h => .inl h) (fun o' h => by rw [ho] at h; injection h with h; subst h; exact h1), fun _ h => h, fun _ h => .inl h⟩
    · exact ⟨_, gen (fun b => S b ∨ b = p.b) (fun _ h => .inl h) (fun _ h => h) (fun o' h => by rw [ho] at h; injection h with h; subst h; exact h1), fun _ h => .inl h, fun _ h => h⟩
theorem res1_shut {fid : Nat → Nat} {lo : Nat} {r : AV} {u : Value} {bs : List Nat} (h : Res1 fid S w lo r u bs) (m : Mp) (hS : ∀ b, S b → S' b) (hbs : ∀ b, b ∈ bs → S' b) : Rep fid m S' w (shut1 r) u := by
  have hst : SameOn S w w := fun _ _ => rfl
  cases r with
  | fsl ex sz n cs =>
    simp only [Res1] at h
    obtain ⟨b, o, c, arr, t, rfl, rfl, h1, h2, h3, h4, h5, h6, h7, h8, h9⟩ := h
    simp only [shut1, Rep]
    exact .inl ⟨b, o, c, rfl, h1, h2, .inr (hbs b (by simp)), h9, repAt_pure' hS hst cs b o h9 rfl h8⟩
  | _ => simp only [Res1] at h; exact rep_pure hS hst _ _ h.2.2 h.2.1
theorem resL_shut {fid : Nat → Nat} {lo : Nat} (m : Mp) (hS : ∀ b, S b → S' b) : ∀ {vs : List AV} {us : List Value} {bs : List Nat}, ResL fid S w lo vs us bs → (∀ b, b ∈ bs → S' b) → RepL fid m S' w (shutL vs) us
  | [], us, bs, h, _ => by simp only [ResL] at h; simp only [shutL, RepL]; exact h.1
  | v :: r, us, bs, h, hb => by
    simp only [ResL] at h
    obtain ⟨u, t, b1, b2, rfl, rfl, h1, h2⟩ := h
    simp only [shutL, RepL]
    exact ⟨u, t, rfl, res1_shut h1 m hS (fun b hb' => hb b (by simp [hb'])), resL_shut m hS h2 (fun b hb' => hb b (by simp [hb']))⟩
theorem res1_lo {fid : Nat → Nat} {lo : Nat} {r : AV} {u : Value} {bs : List Nat} (h : Res1 fid S w lo r u bs) : ∀ b, b ∈ bs → lo ≤ b ∧ b < w.heap.size := by
  intro b hb
  cases r with
  | fsl ex sz n cs =>
    simp only [Res1] at h
    obtain ⟨b', o, c, arr, t, rfl, rfl, h1, h2, h3, h4, h5, _⟩ := h
    simp only [List.mem_singleton] at hb
    subst hb
    exact ⟨h3, (Array.getElem?_eq_some_iff.1 h5).1⟩
  | _ => simp only [Res1] at h; rw [h.1] at hb; cases hb
theorem resL_lo {fid : Nat → Nat} {lo : Nat} : ∀ {vs : List AV} {us : List Value} {bs : List Nat}, ResL fid S w lo vs us bs → ∀ b, b ∈ bs → lo ≤ b ∧ b < w.heap.size
  | [], us, bs, h, b, hb => by simp only [ResL] at h; rw [h.2] at hb; cases hb
  | v :: r, us, bs, h, b, hb => by
    simp only [ResL] at h
    obtain ⟨u, t, b1, b2, rfl, rfl, h1, h2⟩ := h
    rcases List.mem_append.1 hb with hb | hb
    · exact res1_lo h1 b hb
    · exact resL_lo h2 b hb
theorem resV_shut {fid : Nat → Nat} {lo : Nat} {r : AV} {u : Value} (h : ResV fid S w lo r u) (m : Mp) : ∃ S', (∀ b, S b → S' b) ∧ (∀ b, S' b → S b ∨ (lo ≤ b ∧ b < w.heap.size)) ∧ Rep fid m S' w (shut r) u := by
  have one : ∀ (r : AV) (bs : List Nat), shut r = shut1 r → Res1 fid S w lo r u bs → ∃ S', (∀ b, S b → S' b) ∧ (∀ b, S' b → S b ∨ (lo ≤ b ∧ b < w.heap.size)) ∧ Rep fid m S' w (shut r) u := by
    intro r bs hs h
    refine ⟨fun b => S b ∨ b ∈ bs, fun _ h => .inl h, fun b hb => hb.imp (fun x => x) (fun hb => res1_lo h b hb), ?_⟩
    rw [hs]
    exact res1_shut h m (fun _ h => .inl h) (fun _ h => .inr h)
  cases r with
  | tup vs =>
    simp only [ResV] at h
    obtain ⟨us, bs, rfl, h1, h2⟩ := h
    refine ⟨fun b => S b ∨ b ∈ bs, fun _ h => .inl h, fun b hb => hb.imp (fun x => x) (fun hb => resL_lo h1 b hb), ?_⟩
    simp only [shut, Rep]
    exact ⟨us, rfl, resL_shut m (fun _ h => .inl h) h1 (fun _ h => .inr h)⟩
  | _ =>
    simp only [ResV] at h
    obtain ⟨bs, h⟩ := h
    exact one _ bs rfl h
end
end VE
end
section
namespace VE
open Go
section
variable {Λ : Link} {m : Mp} {S : Nat → Prop} {w : World} {H : Hp} {cH : Nat}
theorem own1_ct {hp : Hp} {ct : Nat} {r : AV} : ct ≤ (own1 hp ct r).2.2 := by
  cases r <;> simp only [own1] <;> omega
theorem ownL_ct : ∀ {vs : List AV} {hp : Hp} {ct : Nat}, ct ≤ (ownL hp ct vs).2.2
  | [], hp, ct => by simp [ownL]
  | v :: r, hp, ct => by
    simp only [ownL]
    have h1 := own1_ct (hp := hp) (ct := ct) (r := v)
    have h2 := ownL_ct (vs := r) (hp := (own1 hp ct v).2.1) (ct := (own1 hp ct v).2.2)
    omega
theorem own1_hp {hp : Hp} {ct : Nat} {r : AV} (hf : ∀ id o, hget hp id = some o → id < ct) : ∀ id o, hget hp id = some o → hget (own1 hp ct r).2.1 id = some o := by
  intro id o h
  cases r <;> simp only [own1] <;> try exact h
  rw [hget_cons, if_neg (by have := hf id o h; omega)]
  exact h
theorem own1_ok {hp : Hp} {ct lo : Nat} {r : AV} {u : Value} {bs : List Nat} (hh : HRel Λ m S w H cH) (hl : HLe (own1 hp ct r).2.1 H) (hct : (own1 hp ct r).2.2 ≤ cH) (hn : ∀ id, ct ≤ id → id < (own1 hp ct r).2.2 → m id = none)
    (hr : Res1 Λ.fid S w lo r u bs) (hlo : Λ.w0.heap.size ≤ lo) (hno : ∀ j q, m j = some q → q.b ∉ bs) :
    ∃ m' S', HRel Λ m' S' w H cH ∧ MLe m m' ∧ (∀ id p, m' id = some p → m id = some p ∨ (ct ≤ id ∧ id < (own1 hp ct r).2.2 ∧ p.b ∈ bs)) ∧ Rep Λ.fid m' S' w (own1 hp ct r).1 u ∧ (∀ b, S b → S' b) ∧ (∀ b, S' b → S b ∨ b ∈ bs) := by
  have hst : SameOn S w w := fun _ _ => rfl
  cases r with
  | fsl ex sz n cs =>
    simp only [own1] at hl hct hn
    simp only [Res1] at hr
    obtain ⟨b, o, c, arr, t, rfl, rfl, h1, h2, h3, h4, h5, h6, h7, h8, h9⟩ := hr
    have hmi : m ct = none := hn ct (Nat.le_refl _) (Nat.lt_succ_self _)
    have hblt : b < w.heap.size := (Array.getElem?_eq_some_iff.1 h5).1
    have hor : ORel Λ (addM m ct ⟨b, o, c * sz, sz⟩) S w ct (.cells true true ex sz cs) := by
      refine ⟨_, arr, t, addM_same, h5, rfl, ?_, h7, fun hx => ?_, repAt_pure' (fun _ h => h) hst cs b o h9 rfl h8, fun _ => h9, fun _ => h4, by simp⟩
      · show cs.length ≤ c * sz
        rw [h6]; exact Nat.mul_le_mul_right _ h1
      · show cs.length = c * sz
        rw [h6, h2 hx]
    obtain ⟨S', k1, k2, k3⟩ := hrel_add (p := ⟨b, o, c * sz, sz⟩) hh hmi (by omega) hblt (by show _ ≤ b; omega) h4 (fun j q hq e => hno j q hq (by rw [e]; simp)) (fun o' ho' => by
      obtain ⟨o'', g1, g2⟩ := hl ct (.cells true true ex sz cs) (by rw [hget_cons]; simp)
      rw [ho'] at g1
      injection g1 with g1
      subst g1
      exact orel_freeze (p := ⟨b, o, c * sz, sz⟩) g2 addM_same hor (by simp [frozenO]))
    refine ⟨_, S', k1, addM_le hmi, fun id p hp' => ?_, ?_, k2, fun b' hb' => (k3 b' hb').imp (fun h => h) (fun h => by rw [h]; simp)⟩
    · by_cases hc : id = ct
      · subst hc
        rw [addM_same] at hp'
        injection hp' with hp'
        subst hp'
        exact .inr ⟨Nat.le_refl _, by simp [own1], by simp⟩
      · rw [addM_other hc] at hp'; exact .inl hp'
    · simp only [own1, Rep]; exact ⟨_, c, addM_same, by simp, h1, by simp⟩
  | _ =>
    simp only [Res1] at hr
    exact ⟨m, S, hh, MLe.refl, fun _ _ h => .inl h, rep_pure (fun _ h => h) hst _ _ hr.2.2 hr.2.1, fun _ h => h, fun _ h => .inl h⟩
theorem own1_lt {hp : Hp} {ct : Nat} {r : AV} (hf : ∀ id o, hget hp id = some o → id < ct) : ∀ id o, hget (own1 hp ct r).2.1 id = some o → id < (own1 hp ct r).2.2 := by
  intro id o h
  cases r <;> simp only [own1] at h ⊢ <;> try exact hf id o h
  rw [hget_cons] at h
  by_cases hc : ct = id
  · omega
  · simp only [hc, if_false] at h; have := hf id o h; omega
theorem ownL_hp : ∀ {vs : List AV} {hp : Hp} {ct : Nat}, (∀ id o, hget hp id = some o → id < ct) → ∀ id o, hget hp id = some o → hget (ownL hp ct vs).2.1 id = some o
  | [], hp, ct, _, id, o, h => by simpa [ownL] using h
  | v :: r, hp, ct, hf, id, o, h => by
    simp only [ownL]
    exact ownL_hp (own1_lt hf) id o (own1_hp hf id o h)
theorem ownL_ok {lo : Nat} (hlo : Λ.w0.heap.size ≤ lo) : ∀ {vs : List AV} {us : List Value} {bs : List Nat} {hp : Hp} {ct : Nat} {m : Mp} {S : Nat → Prop}, HRel Λ m S w H cH → HLe (ownL hp ct vs).2.1 H → (ownL hp ct vs).2.2 ≤ cH →
    (∀ id o, hget hp id = some o → id < ct) → (∀ id, ct ≤ id → id < (ownL hp ct vs).2.2 → m id = none) →
    ResL Λ.fid S w lo vs us bs → bs.Nodup → (∀ j q, m j = some q → q.b ∉ bs) →
    ∃ m' S', HRel Λ m' S' w H cH ∧ MLe m m' ∧ (∀ id p, m' id = some p → m id = some p ∨ (ct ≤ id ∧ id < (ownL hp ct vs).2.2 ∧ p.b ∈ bs)) ∧ RepL Λ.fid m' S' w (ownL hp ct vs).1 us ∧ (∀ b, S b → S' b) ∧ (∀ b, S' b → S b ∨ b ∈ bs)
  | [], us, bs, hp, ct, m, S, hh, hl, hct, hf, hn, hr, hnd, hno => by
    simp only [ResL] at hr
    exact ⟨m, S, hh, MLe.refl, fun _ _ h => .inl h, by simp only [ownL, RepL]; exact hr.1, fun _ h => h, fun _ h => .inl h⟩
  | v :: r, us, bs, hp, ct, m, S, hh, hl, hct, hf, hn, hr, hnd, hno => by
    simp only [ResL] at hr
    obtain ⟨u, t, b1, b2, rfl, rfl, h1, h2⟩ := hr
    simp only [ownL] at hl hct hn ⊢
    have hc1 := own1_ct (hp := hp) (ct := ct) (r := v)
    have hc2 := ownL_ct (vs := r) (hp := (own1 hp ct v).2.1) (ct := (own1 hp ct v).2.2)
    rw [List.nodup_append] at hnd
    obtain ⟨m1, S1, k1, k2, k3, k4, k5, k6⟩ := own1_ok (hp := hp) (ct := ct) (lo := lo) hh ((fun id o h => hl id o (ownL_hp (own1_lt hf) id o h))) (by omega) (fun id g1 g2 => hn id g1 (by omega)) h1 hlo
      (fun j q hq hb => hno j q hq (by simp [hb]))
    have h2' : ResL Λ.fid S1 w lo r t b2 := by
      clear k4
      have hdis : ∀ b, S1 b → S b ∨ b ∈ b1 := k6
      have hd : ∀ b, b ∈ b2 → b ∉ b1 := fun b hb hb1 => hnd.2.2 b hb1 b hb rfl
      have one : ∀ {v : AV} {u : Value} {bb : List Nat}, (∀ b, b ∈ bb → b ∉ b1) → Res1 Λ.fid S w lo v u bb → Res1 Λ.fid S1 w lo v u bb := by
        intro v u bb hbb h
        cases v with
        | fsl ex sz n cs =>
          simp only [Res1] at h ⊢
          obtain ⟨b, o, c, arr, tt, rfl, rfl, g1, g2, g3, g4, g5, g6, g7, g8, g9⟩ := h
          exact ⟨b, o, c, arr, tt, rfl, rfl, g1, g2, g3, fun hs => (hdis b hs).elim g4 (hbb b (by simp)), g5, g6, g7, repAt_pure' k5 (fun _ _ => rfl) cs b o g9 rfl g8, g9⟩
        | _ => simp only [Res1] at h ⊢; exact ⟨h.1, rep_pure k5 (fun _ _ => rfl) _ _ h.2.2 h.2.1, h.2.2⟩
      clear k1 k2 k3 hl hct hn hno hnd
      revert hd h2
      generalize b2 = bb
      induction r generalizing t bb with
      | nil => intro h2 hd; simpa only [ResL] using h2
      | cons v' r ih =>
        intro h2 hd
        simp only [ResL] at h2 ⊢
        obtain ⟨u', t', c1, c2, rfl, rfl, g1, g2⟩ := h2
        exact ⟨u', t', c1, c2, rfl, rfl, one (fun b hb => hd b (by simp [hb])) g1, ih _ (by
          have := ownL_ct (vs := r) (hp := (own1 hp ct v).2.1) (ct := (own1 hp ct v).2.2)
          exact this) _ g2 (fun b hb => hd b (by simp [hb]))⟩
    obtain ⟨m2, S2, g1, g2, g3, g4, g5, g6⟩ := ownL_ok hlo (vs := r) (us := t) (bs := b2) (m := m1) (S := S1) k1 hl hct (own1_lt hf) (fun id q1 q2 => by
      cases hq : m1 id with
      | none => rfl
      | some p =>
        rcases k3 id p hq with h | ⟨_, h, _⟩
        · rw [hn id (by omega) q2] at h; cases h
        · omega) h2' hnd.2.1 (fun j q hq hb => by
          rcases k3 j q hq with h | ⟨_, _, h⟩
          · exact hno j q h (by simp [hb])
          · exact hnd.2.2 q.b h q.b hb rfl)
    refine ⟨m2, S2, g1, k2.trans g2, fun id p hp' => ?_, ?_, fun b hb => g5 b (k5 b hb), fun b hb => ?_⟩
    · rcases g3 id p hp' with h | ⟨a1, a2, a3⟩
      · rcases k3 id p h with h | ⟨a1, a2, a3⟩
        · exact .inl h
        · exact .inr ⟨a1, by omega, by simp [a3]⟩
      · exact .inr ⟨by omega, a2, by simp [a3]⟩
    · simp only [RepL]
      exact ⟨u, t, rfl, rep_mono g2 g5 (fun _ _ => rfl) _ _ k4, g4⟩
    · rcases g6 b hb with h | h
      · exact (k6 b h).imp (fun h => h) (fun h => by simp [h])
      · exact .inr (by simp [h])
theorem own_ok {hp : Hp} {ct lo : Nat} {r : AV} {u : Value} (hh : HRel Λ m S w H cH) (hl : HLe (own hp ct r).2.1 H) (hct : (own hp ct r).2.2 ≤ cH) (hf : ∀ id o, hget hp id = some o → id < ct)
    (hn : ∀ id, ct ≤ id → id < (own hp ct r).2.2 → m id = none) (hr : ResV Λ.fid S w lo r u) (hlo : Λ.w0.heap.size ≤ lo) (hmb : ∀ j q, m j = some q → q.b < lo) :
    ∃ m' S', HRel Λ m' S' w H cH ∧ MLe m m' ∧ (∀ id p, m' id = some p → m id = some p ∨ (ct ≤ id ∧ id < (own hp ct r).2.2 ∧ lo ≤ p.b)) ∧ Rep Λ.fid m' S' w (own hp ct r).1 u ∧ (∀ b, S b → S' b) ∧ (∀ b, S' b → S b ∨ lo ≤ b) := by
  have one : ∀ (r : AV) (bs : List Nat), own hp ct r = own1 hp ct r → Res1 Λ.fid S w lo r u bs → HLe (own hp ct r).2.1 H → (own hp ct r).2.2 ≤ cH → (∀ id, ct ≤ id → id < (own hp ct r).2.2 → m id = none) →
      ∃ m' S', HRel Λ m' S' w H cH ∧ MLe m m' ∧ (∀ id p, m' id = some p → m id = some p ∨ (ct ≤ id ∧ id < (own hp ct r).2.2 ∧ lo ≤ p.b)) ∧ Rep Λ.fid m' S' w (own hp ct r).1 u ∧ (∀ b, S b → S' b) ∧ (∀ b, S' b → S b ∨ lo ≤ b) := by
    intro r bs he hr hl hct hn
    rw [he] at hl hct hn ⊢
    have hlob := res1_lo hr
    obtain ⟨m', S', k1, k2, k3, k4, k5, k6⟩ := own1_ok hh hl hct hn hr hlo (fun j q hq hb => by have := hmb j q hq; have := (hlob _ hb).1; omega)
    exact ⟨m', S', k1, k2, fun id p h => (k3 id p h).imp (fun h => h) (fun h => ⟨h.1, h.2.1, (hlob _ h.2.2).1⟩), k4, k5, fun b hb => (k6 b hb).imp (fun h => h) (fun h => (hlob _ h).1)⟩
  cases r with
  | tup vs =>
    simp only [own] at hl hct hn ⊢
    simp only [ResV] at hr
    obtain ⟨us, bs, rfl, h1, h2⟩ := hr
    have hlob := resL_lo h1
    obtain ⟨m', S', k1, k2, k3, k4, k5, k6⟩ := ownL_ok hlo hh hl hct hf hn h1 h2 (fun j q hq hb => by have := hmb j q hq; have := (hlob _ hb).1; omega)
    exact ⟨m', S', k1, k2, fun id p h => (k3 id p h).imp (fun h => h) (fun h => ⟨h.1, h.2.1, (hlob _ h.2.2).1⟩), by simp only [Rep]; exact ⟨us, rfl, k4⟩, k5, fun b hb => (k6 b hb).imp (fun h => h) (fun h => (hlob _ h).1)⟩
  | _ =>
    simp only [ResV] at hr
    obtain ⟨bs, hr⟩ := hr
    exact one _ bs rfl hr hl hct hn
end
end VE
end
section
namespace VE
open Go
section
variable {Λ : Link} {m m' : Mp} {S : Nat → Prop} {w : World} {f : Nat → Option Nat}
def RenOk (f : Nat → Option Nat) (m m' : Mp) : Prop := ∀ id j, f id = some j → m' j = m id
mutual
theorem rep_ren {fid : Nat → Nat} (hf : RenOk f m m') : ∀ (v : AV) (u : Value), Rep fid m S w v u → Rep fid m' S w (ren f v) u
  | .int _ _, _, h | .bool _, _, h | .flt _ _, _, h | .str _, _, h | .nilp, _, h | .nils, _, h | .nilf, _, h | .nilm, _, h | .undef, _, h => by
    simpa only [ren, Rep] using h
  | .ptr id o, u, h => by
    simp only [ren]
    cases hi : f id with
    | none => simp only [Rep]
    | some j =>
      simp only [Rep] at h ⊢
      rw [hf id j hi]; exact h
  | .vptr cs, u, h => by
    simp only [ren]
    exact rep_pure (fun _ h => h) (fun _ _ => rfl) _ _ (by simp [pureAV]) h
  | .vsl ex n cs, u, h => by
    simp only [ren]
    exact rep_pure (fun _ h => h) (fun _ _ => rfl) _ _ (by simp [pureAV]) h
  | .fsl _ _ _ _, u, h => by simp only [Rep] at h
  | .osl id o n, u, h => by
    simp only [ren]
    cases hi : f id with
    | none => simp only [Rep]
    | some j =>
      simp only [Rep] at h ⊢
      rw [hf id j hi]; exact h
  | .fn (.f g) first cap, u, h => by
    simp only [ren, Rep] at h ⊢
    obtain ⟨fi, ca, h1, h2, h3⟩ := h
    exact ⟨fi, ca, h1, repL_ren hf first _ h2, repL_ren hf cap _ h3⟩
  | .fn (.y l) first cap, u, h => by
    simp only [ren]
    cases hi : f l with
    | none => simp only [Rep]
    | some j =>
      simp only [Rep] at h ⊢
      rw [hf l j hi]; exact h
  | .map id, u, h => by
    simp only [ren]
    cases hi : f id with
    | none => simp only [Rep]
    | some j =>
      simp only [Rep] at h ⊢
      rw [hf id j hi]; exact h
  | .vmap ks vs, u, h => by
    simp only [ren]
    exact rep_pure (fun _ h => h) (fun _ _ => rfl) _ _ (by simp [pureAV]) h
  | .it id, u, h => by
    simp only [ren]
    cases hi : f id with
    | none => simp only [Rep]
    | some j =>
      simp only [Rep] at h ⊢
      rw [hf id j hi]; exact h
  | .agg cs, u, h => by
    simp only [ren, Rep] at h ⊢; obtain ⟨xs, h1, h2⟩ := h; exact ⟨xs, h1, repL_ren hf cs _ h2⟩
  | .tup cs, u, h => by
    simp only [ren, Rep] at h ⊢; obtain ⟨xs, h1, h2⟩ := h; exact ⟨xs, h1, repL_ren hf cs _ h2⟩
theorem repL_ren {fid : Nat → Nat} (hf : RenOk f m m') : ∀ (vs : List AV) (us : List Value), RepL fid m S w vs us → RepL fid m' S w (renL f vs) us
  | [], us, h => by simpa only [renL, RepL] using h
  | v :: r, us, h => by
    simp only [renL, RepL] at h ⊢
    obtain ⟨u, t, h1, h2, h3⟩ := h
    exact ⟨u, t, h1, rep_ren hf v u h2, repL_ren hf r t h3⟩
end
theorem repAt_ren {fid : Nat → Nat} (hf : RenOk f m m') {cs : List AV} {b o : Nat} (h : RepAt fid m S w cs b o) : RepAt fid m' S w (renL f cs) b o := by
  obtain ⟨us, h1, _, h3⟩ := repAt_vals cs b o h
  exact repAt_of _ us o (repL_ren hf cs us h1) h3
theorem renL_len : ∀ cs : List AV, (renL f cs).length = cs.length
  | [] => rfl
  | c :: r => by simp [renL, renL_len r]
theorem tget_ren : ∀ (tm : Env) (i : Nat), tget (renE f tm) i = ren f (tget tm i)
  | [], i => by simp [renE, tget, ren]
  | (j, v) :: r, i => by
    simp only [renE, tget]
    cases Nat.beq j i with
    | true => rfl
    | false => exact tget_ren r i
theorem tget_keep (tm : Env) (i : Nat) : ∀ live : List Nat, tget (keep tm live) i = tget tm i ∨ tget (keep tm live) i = .undef
  | [] => .inr rfl
  | j :: r => by
    simp only [keep, tget]
    cases hb : Nat.beq j i with
    | true => rw [Nat.eq_of_beq_eq_true hb]; exact .inl rfl
    | false => exact tget_keep tm i r
theorem trel_ren {tm : Env} {tmps : Array Value} (hf : RenOk f m m') (h : TRel Λ m S w tm tmps) : TRel Λ m' S w (renE f tm) tmps := fun i => by
  rw [tget_ren]; exact rep_ren hf _ _ (h i)
theorem orel_ren {id j : Nat} {o : Obj} {p : Pl} (hf : RenOk f m m') (hm : m id = some p) (hj : m' j = some p) (h : ORel Λ m S w id o) : ORel Λ m' S w j (renO f o) := by
  cases o with
  | cells rw pu ex sz cs =>
    obtain ⟨q, arr, t, h1, h2, h3, h4, h5, h6, h7, h8, h9, h10⟩ := h
    rw [hm] at h1; injection h1 with h1; subst h1
    cases pu with
    | true => exact ⟨p, arr, t, hj, h2, h3, h4, h5, h6, repAt_pure' (fun _ h => h) (fun _ _ => rfl) _ _ _ (h8 rfl) rfl h7, h8, h9, h10⟩
    | false => exact ⟨p, arr, t, hj, h2, h3, by rw [cond_false, renL_len]; exact h4, h5, by rw [cond_false, renL_len]; exact h6, repAt_ren hf h7, by simp, h9, h10⟩
  | mp rw ks vs =>
    obtain ⟨q, es, clock, h1, h2, h3, h4, h5, h6⟩ := h
    rw [hm] at h1; injection h1 with h1; subst h1
    exact ⟨p, es, clock, hj, h2, repL_ren hf _ _ h3, repL_ren hf _ _ h4, h5, h6⟩
  | si s pos =>
    obtain ⟨q, t, h1, h2, h3, h4⟩ := h
    rw [hm] at h1; injection h1 with h1; subst h1
    exact ⟨p, t, hj, h2, h3, h4⟩
  | lp tm ps as_ body st pe =>
    obtain ⟨q, l, hi, h1, h2, h3, h4, h5, h6, h7, h8⟩ := h
    rw [hm] at h1; injection h1 with h1; subst h1
    exact ⟨p, l, hi, hj, h2, h3, h4, h5, h6, trel_ren hf h7, h8⟩
theorem posN_spec {i : Nat} : ∀ {l : List Nat} {k j : Nat}, posN i l k = some j → k ≤ j ∧ l[j - k]? = some i
  | [], k, j, h => by simp [posN] at h
  | x :: r, k, j, h => by
    simp only [posN] at h
    cases hb : Nat.beq x i with
    | true =>
      rw [hb] at h
      simp only [cond_true, Option.some.injEq] at h
      subst h
      exact ⟨Nat.le_refl _, by simp [Nat.eq_of_beq_eq_true hb]⟩
    | false =>
      rw [hb] at h
      simp only [cond_false] at h
      obtain ⟨h1, h2⟩ := posN_spec h
      refine ⟨by omega, ?_⟩
      rw [show j - k = (j - (k + 1)) + 1 by omega, List.getElem?_cons_succ]
      exact h2
theorem blt_iff {a b : Nat} : Nat.blt a b = true ↔ a < b := by simp [Nat.blt, Nat.lt_iff_add_one_le]
theorem newOf_spec {hp : Hp} {j : Nat} {o' : Obj} : ∀ {l : List Nat} {k : Nat} {acc : Hp}, hget (newOf hp f l k acc) j = some o' →
    (∃ i id o, l[i]? = some id ∧ j = k + i ∧ hget hp id = some o ∧ o' = renO f o) ∨ hget acc j = some o'
  | [], k, acc, h => .inr h
  | x :: r, k, acc, h => by
    simp only [newOf] at h
    cases hx : hget hp x with
    | none =>
      simp only [hx] at h
      rcases newOf_spec h with ⟨i, id, o, h1, h2, h3, h4⟩ | h
      · exact .inl ⟨i + 1, id, o, by simpa using h1, by omega, h3, h4⟩
      · exact .inr h
    | some o =>
      simp only [hx] at h
      rcases newOf_spec h with ⟨i, id, o, h1, h2, h3, h4⟩ | h
      · exact .inl ⟨i + 1, id, o, by simpa using h1, by omega, h3, h4⟩
      · rw [hget_cons] at h
        by_cases hc : k = j
        · simp only [hc, if_true, Option.some.injEq] at h
          exact .inl ⟨0, x, o, by simp, by omega, hx, h.symm⟩
        · simp only [hc, if_false] at h; exact .inr h
theorem oldOf_spec {base : Nat} {j : Nat} {o' : Obj} : ∀ {hp : Hp}, hget (oldOf base f hp) j = some o' → j < base ∧ ∃ o, hget hp j = some o ∧ o' = renO f o
  | [], h => by simp [oldOf, hget] at h
  | (i, q) :: r, h => by
    simp only [oldOf] at h
    cases hb : Nat.blt i base with
    | true =>
      rw [hb] at h
      simp only [cond_true] at h
      rw [hget_cons] at h
      by_cases hc : i = j
      · simp only [hc, if_true, Option.some.injEq] at h
        exact ⟨by rw [← hc]; exact blt_iff.1 hb, q, by rw [hget_cons]; simp [hc], h.symm⟩
      · simp only [hc, if_false] at h
        obtain ⟨h1, o, h2, h3⟩ := oldOf_spec h
        exact ⟨h1, o, by rw [hget_cons]; simp [hc, h2], h3⟩
    | false =>
      rw [hb] at h
      simp only [cond_false] at h
      obtain ⟨h1, o, h2, h3⟩ := oldOf_spec h
      have hc : ¬ i = j := fun e => by
        subst e
        have := blt_iff.2 h1
        rw [this] at hb; cases hb
      exact ⟨h1, o, by rw [hget_cons]; simp [hc, h2], h3⟩
def newM (m : Mp) (base : Nat) (seen : List Nat) : Mp := fun j =>
  if j < base then m j else match seen[j - base]? with
    | some id => if newId base seen id = some j then m id else none
    | none => none
theorem newM_spec {base : Nat} {seen : List Nat} {j : Nat} {p : Pl} (h : newM m base seen j = some p) : ∃ id, newId base seen id = some j ∧ m id = some p ∧ (j < base → id = j) := by
  unfold newM at h
  split at h
  · rename_i hj
    exact ⟨j, by simp [newId, blt_iff.2 hj], h, fun _ => rfl⟩
  · rename_i hj
    split at h
    · rename_i id _
      split at h
      · rename_i hn
        exact ⟨id, hn, h, fun h => (hj h).elim⟩
      · cases h
    · cases h
theorem newM_ren {base : Nat} {seen : List Nat} : RenOk (newId base seen) m (newM m base seen) := by
  intro id j h
  have h0 := h
  unfold newId at h
  cases hb : Nat.blt id base with
  | true =>
    rw [hb] at h
    simp only [cond_true, Option.some.injEq] at h
    subst h
    simp [newM, blt_iff.1 hb]
  | false =>
    rw [hb] at h
    simp only [cond_false] at h
    obtain ⟨h1, h2⟩ := posN_spec h
    have : ¬ j < base := by omega
    simp only [newM, this, if_false, h2, h0, if_true]
theorem compact_ok {s : St} {tmps : Array Value} {live : List Nat} (ht : TRel Λ m S w s.tm tmps) (hh : HRel Λ m S w s.hp s.ct) (hb : s.base ≤ s.ct) :
    ∃ m', TRel Λ m' S w (compact live s).tm tmps ∧ HRel Λ m' S w (compact live s).hp (compact live s).ct ∧ (compact live s).base = s.base ∧ s.base ≤ (compact live s).ct ∧ Fwd m S w s.hp m' S w (compact live s).hp s.base := by
  simp only [compact]
  generalize hseen : reach s.hp s.base 100000 (refsE (keep s.tm live) ++ oldRefs s.base s.hp) [] = seen
  have hr := newM_ren (m := m) (base := s.base) (seen := seen)
  have hlt : ∀ j p, newM m s.base seen j = some p → j < s.base + seen.length := by
    intro j p h
    unfold newM at h
    split at h
    · omega
    · split at h
      · rename_i id h2
        have := (List.getElem?_eq_some_iff.1 h2).1
        omega
      · cases h
  have back : ∀ j o' p, hget (newOf s.hp (newId s.base seen) seen s.base (oldOf s.base (newId s.base seen) s.hp)) j = some o' → newM m s.base seen j = some p →
      ∃ id o, newId s.base seen id = some j ∧ hget s.hp id = some o ∧ m id = some p ∧ o' = renO (newId s.base seen) o := by
    intro j o' p ho hm
    obtain ⟨id, h1, h2, h3⟩ := newM_spec hm
    rcases newOf_spec ho with ⟨i, id', o, g1, g2, g3, g4⟩ | ho
    · have hj : ¬ j < s.base := by omega
      have : newM m s.base seen j = if newId s.base seen id' = some j then m id' else none := by
        simp only [newM, hj, if_false, show j - s.base = i by omega, g1]
      rw [this] at hm
      split at hm
      · rename_i hn
        exact ⟨id', o, hn, g3, hm, g4⟩
      · cases hm
    · obtain ⟨g1, o, g2, g3⟩ := oldOf_spec ho
      have := h3 g1
      subst this
      exact ⟨_, o, h1, g2, h2, g3⟩
  refine ⟨newM m s.base seen, ?_, ⟨?_, hlt, ?_, hh.slt, ?_, ?_, hh.good, hh.goodS, fun j o' ho => (by
    rcases newOf_spec ho with ⟨i, id', o, g1, g2, g3, g4⟩ | ho
    · have := (List.getElem?_eq_some_iff.1 g1).1; omega
    · have := (oldOf_spec ho).1; omega)⟩, by trivial, by omega, ⟨rfl, rfl, rfl, Nat.le_refl _, fun _ _ _ => rfl, fun _ h => h, fun _ _ => rfl, fun _ h => .inl h, ?_, ?_, fun _ r h => ⟨r, h⟩⟩⟩
  · refine trel_ren hr (fun i => ?_)
    rcases tget_keep s.tm i live with h | h
    · rw [h]; exact ht i
    · rw [h]; simp only [Rep]
  · intro j o' p ho hm
    obtain ⟨id, o, h1, h2, h3, rfl⟩ := back j o' p ho hm
    exact orel_ren hr h3 hm (hh.obj id o p h2 h3)
  · intro i j oi oj pi pj hi hj hmi hmj e
    obtain ⟨idi, o1, a1, a2, a3, _⟩ := back i oi pi hi hmi
    obtain ⟨idj, o2, b1, b2, b3, _⟩ := back j oj pj hj hmj
    have := hh.inj idi idj o1 o2 pi pj a2 b2 a3 b3 e
    subst this
    rw [a1] at b1
    injection b1
  · intro j p hm
    obtain ⟨id, _, h2, _⟩ := newM_spec hm
    exact hh.blt id p h2
  · intro j p hm
    obtain ⟨id, _, h2, _⟩ := newM_spec hm
    exact hh.low id p h2
  · rintro b ⟨j, o', p, h1, h2, h3⟩
    obtain ⟨id, o, _, g2, g3, _⟩ := back j o' p h1 h2
    exact .inl ⟨id, o, p, g2, g3, h3⟩
  · intro id p hid hm
    simp [newM, hid, hm]
end
end VE
end
section
namespace VE
open Go
section
variable {Λ : Link} {m : Mp} {S : Nat → Prop} {w : World} {hp : Hp} {ct : Nat}
theorem hrel_del (hh : HRel Λ m S w hp ct) (id : Nat) : HRel Λ m S w (hdel hp id) ct := by
  have sub : ∀ i o, hget (hdel hp id) i = some o → hget hp i = some o := fun i o h => by
    rw [hget_hdel] at h
    by_cases hc : id = i
    · simp [hc] at h
    · simpa only [hc, if_false] using h
  exact ⟨fun i o p h hm => hh.obj i o p (sub i o h) hm, hh.lt, fun i j oi oj pi pj hi hj => hh.inj i j oi oj pi pj (sub i oi hi) (sub j oj hj), hh.slt, hh.blt, hh.low, hh.good, hh.goodS, fun i o h => hh.hlt i o (sub i o h)⟩
theorem own_del {id b : Nat} (h : Own m (hdel hp id) b) : Own m hp b := by
  obtain ⟨i, o, p, h1, h2, h3⟩ := h
  rw [hget_hdel] at h1
  by_cases hc : id = i
  · simp [hc] at h1
  · simp only [hc, if_false] at h1
    exact ⟨i, o, p, h1, h2, h3⟩
theorem own_del_not (hh : HRel Λ m S w hp ct) {id : Nat} {o : Obj} {p : Pl} (hg : hget hp id = some o) (hm : m id = some p) : ¬ Own m (hdel hp id) p.b := by
  rintro ⟨i, o', q, h1, h2, h3⟩
  rw [hget_hdel] at h1
  by_cases hc : id = i
  · simp [hc] at h1
  · simp only [hc, if_false] at h1
    exact hc (hh.inj i id o' o q p h1 hg h2 hm h3).symm
theorem own_dom {hp' : Hp} (hd : SameDom hp hp') {b : Nat} (h : Own m hp' b) : Own m hp b := by
  obtain ⟨i, o, p, h1, h2, h3⟩ := h
  have := hd i
  rw [h1] at this
  cases hq : hget hp i with
  | none => rw [hq] at this; cases this
  | some q => exact ⟨i, q, p, hq, h2, h3⟩
theorem res_frozen {lo : Nat} {v v' : AV} {hp' : Hp} {n : Nat} (hh : HRel Λ m S w hp ct) (hf : freeze n hp v = some (v', hp')) {u : Value} (hv : Rep Λ.fid m S w v u) :
    ∃ S', HRel Λ m S' w hp' ct ∧ (∀ b, S b → S' b) ∧ (∀ b, S' b → S b ∨ Own m hp b) ∧ pureAV v' = true ∧ Rep Λ.fid noM S' w v' u ∧ Res1 Λ.fid S' w lo v' u [] := by
  obtain ⟨h1, h2, h3⟩ := freeze_ok (Λ := Λ) hf
  obtain ⟨S', g1, g2, g3⟩ := hrel_le hh h1 (fun id o p ho hm => by
    have := h2 id
    rw [ho] at this
    cases hq : hget hp id with
    | none => rw [hq] at this; cases this
    | some q => exact ⟨q, rfl⟩) (Nat.le_refl _) (fun id o ho => (by
    have := h2 id
    rw [ho] at this
    cases hq : hget hp id with
    | none => rw [hq] at this; cases this
    | some q => exact hh.hlt id q hq))
  obtain ⟨k1, k2⟩ := h3 hp' m S' w ct HLe.refl g1
  have hr := k1 u (rep_mono (fun _ _ h => h) g2 (fun _ _ => rfl) v u hv)
  have hr' : Rep Λ.fid noM S' w v' u := rep_pure (fun _ h => h) (fun _ _ => rfl) v' u k2 hr
  refine ⟨S', g1, g2, g3, k2, hr', ?_⟩
  cases v' with
  | fsl _ _ _ _ => simp [pureAV] at k2
  | _ => exact ⟨rfl, hr', k2⟩
theorem res1_mono {S' : Nat → Prop} {lo : Nat} {v : AV} {u : Value} {bs : List Nat} (hS : ∀ b, S b → S' b) (hn : ∀ b, b ∈ bs → ¬ S' b) (h : Res1 Λ.fid S w lo v u bs) : Res1 Λ.fid S' w lo v u bs := by
  cases v with
  | fsl ex sz n cs =>
    simp only [Res1] at h ⊢
    obtain ⟨b, o, c, arr, t, rfl, rfl, g1, g2, g3, g4, g5, g6, g7, g8, g9⟩ := h
    exact ⟨b, o, c, arr, t, rfl, rfl, g1, g2, g3, hn b (by simp), g5, g6, g7, repAt_pure' hS (fun _ _ => rfl) cs b o g9 rfl g8, g9⟩
  | _ => simp only [Res1] at h ⊢; exact ⟨h.1, rep_pure hS (fun _ _ => rfl) _ _ h.2.2 h.2.1, h.2.2⟩
theorem fresh1_ok {lo : Nat} {v v' : AV} {hp' : Hp} {n : Nat} (hh : HRel Λ m S w hp ct) (hf : fresh1 n hp v = some (v', hp')) {u : Value} (hv : Rep Λ.fid m S w v u) (hlo : ∀ b, Own m hp b → lo ≤ b) :
    ∃ S' bs, HRel Λ m S' w hp' ct ∧ (∀ b, S b → S' b) ∧ (∀ b, S' b → S b ∨ Own m hp b) ∧ Res1 Λ.fid S' w lo v' u bs ∧ bs.Nodup ∧ (∀ b, b ∈ bs → Own m hp b ∧ ¬ Own m hp' b) ∧ (∀ b, Own m hp' b → Own m hp b) := by
  have frozen : freeze n hp v = some (v', hp') → ∃ S' bs, HRel Λ m S' w hp' ct ∧ (∀ b, S b → S' b) ∧ (∀ b, S' b → S b ∨ Own m hp b) ∧ Res1 Λ.fid S' w lo v' u bs ∧ bs.Nodup ∧ (∀ b, b ∈ bs → Own m hp b ∧ ¬ Own m hp' b) ∧ (∀ b, Own m hp' b → Own m hp b) := by
    intro hz
    obtain ⟨S', g1, g2, g3, g4, g5, g6⟩ := res_frozen (lo := lo) hh hz hv
    exact ⟨S', [], g1, g2, g3, g6, by simp, by simp, fun b hb => own_dom (freeze_ok (Λ := Λ) hz).2.1 hb⟩
  unfold fresh1 at hf
  split at hf
  · rename_i id o k
    split at hf
    · rename_i ex sz cs hg
      cases hc : Nat.ble (o + k * sz) cs.length with
      | false => rw [hc] at hf; cases hf
      | true =>
        rw [hc] at hf
        simp only [cond_true, Option.some.injEq, Prod.mk.injEq] at hf
        obtain ⟨rfl, rfl⟩ := hf
        have hle := Nat.le_of_ble_eq_true hc
        simp only [Rep] at hv
        obtain ⟨p, c, hm, rfl, h1, h2⟩ := hv
        obtain ⟨p', arr, t, g1, g2, g3, g4, g5, g6, g7, g8, g9, g10⟩ := hh.obj id _ _ hg hm
        rw [hm] at g1
        injection g1 with g1
        subst g1
        rw [g3] at h2
        refine ⟨S, [p.b], hrel_del hh id, fun _ h => h, fun _ h => .inl h, ?_, by simp, ?_, fun b hb => own_del hb⟩
        · refine ⟨p.b, p.o + o, c, arr, t, rfl, rfl, h1, ?_, hlo _ (own_of hg hm), g9 rfl, g2, ?_, by omega, ?_, pureL_take' _ (pureL_drop _ _ (g8 rfl))⟩
          · intro hx
            simp only [Bool.and_eq_true] at hx
            have e1 := Nat.eq_of_beq_eq_true hx.2
            have e2 := blt_iff.1 hx.1.2
            have e3 := g6 hx.1.1
            have : c * sz = k * sz := by omega
            exact Nat.eq_of_mul_eq_mul_right e2 this
          · simp only [slice, List.length_take, List.length_drop]; omega
          · exact repAt_pure' (fun _ h => h) (fun _ _ => rfl) _ _ _ (pureL_take' _ (pureL_drop _ _ (g8 rfl))) rfl (repAt_take _ _ _ _ (repAt_drop _ _ _ _ g7))
        · intro b hb
          simp only [List.mem_singleton] at hb
          subst hb
          exact ⟨own_of hg hm, own_del_not hh hg hm⟩
    · exact frozen hf
  · exact frozen hf
theorem fresh1L_ok {lo n : Nat} : ∀ {vs vs' : List AV} {us : List Value} {hp hp' : Hp} {S : Nat → Prop}, HRel Λ m S w hp ct → fresh1L n hp vs = some (vs', hp') → RepL Λ.fid m S w vs us → (∀ b, Own m hp b → lo ≤ b) →
    ∃ S' bs, (∀ b, S b → S' b) ∧ (∀ b, S' b → S b ∨ Own m hp b) ∧ ResL Λ.fid S' w lo vs' us bs ∧ bs.Nodup ∧ (∀ b, b ∈ bs → Own m hp b) ∧ (∀ b, S' b → b < w.heap.size)
  | [], vs', us, hp, hp', S, hh, hf, hv, hlo => by
    simp only [fresh1L, Option.some.injEq, Prod.mk.injEq] at hf
    obtain ⟨rfl, rfl⟩ := hf
    simp only [RepL] at hv
    exact ⟨S, [], fun _ h => h, fun _ h => .inl h, by simp only [ResL]; exact ⟨hv, by trivial⟩, by simp, by simp, hh.slt⟩
  | v :: r, vs', us, hp, hp', S, hh, hf, hv, hlo => by
    simp only [fresh1L] at hf
    cases h1 : fresh1 n hp v with
    | none => simp [h1] at hf
    | some q =>
      obtain ⟨v1, hp1⟩ := q
      simp only [h1] at hf
      cases h2 : fresh1L n hp1 r with
      | none => simp [h2] at hf
      | some q2 =>
        obtain ⟨r1, hp2⟩ := q2
        simp only [h2, Option.some.injEq, Prod.mk.injEq] at hf
        obtain ⟨rfl, rfl⟩ := hf
        simp only [RepL] at hv
        obtain ⟨u, t, rfl, hv1, hv2⟩ := hv
        obtain ⟨S1, b1, k1, k2, k3, k4, k5, k6, k7⟩ := fresh1_ok (lo := lo) hh h1 hv1 hlo
        obtain ⟨S2, b2, g1, g2, g3, g4, g5, g6⟩ := fresh1L_ok (us := t) k1 h2 (repL_mono (fun _ _ h => h) k2 (fun _ _ => rfl) _ _ hv2) (fun b hb => hlo b (k7 b hb))
        have hdis : ∀ b, b ∈ b1 → ¬ S2 b := by
          intro b hb hs
          rcases g2 b hs with h | h
          · cases v1 with
            | fsl ex sz n cs =>
              simp only [Res1] at k4
              obtain ⟨b', o, c, arr, tt, rfl, _, _, _, _, h4, _⟩ := k4
              simp only [List.mem_singleton] at hb
              subst hb
              exact h4 h
            | _ => simp only [Res1] at k4; rw [k4.1] at hb; cases hb
          · exact (k6 b hb).2 h
        refine ⟨S2, b1 ++ b2, fun b hb => g1 b (k2 b hb), fun b hb => ?_, ?_, ?_, ?_, g6⟩
        · rcases g2 b hb with h | h
          · exact k3 b h
          · exact .inr (k7 b h)
        · simp only [ResL]
          exact ⟨u, t, b1, b2, rfl, rfl, res1_mono g1 hdis k4, g3⟩
        · rw [List.nodup_append]
          exact ⟨k5, g4, fun a ha b hb e => (k6 a ha).2 (by rw [e]; exact g5 b hb)⟩
        · intro b hb
          rcases List.mem_append.1 hb with hb | hb
          · exact (k6 b hb).1
          · exact k7 b (g5 b hb)
theorem resL_pure {lo : Nat} : ∀ {cs : List AV} {us : List Value}, pureL cs = true → RepL Λ.fid noM S w cs us → ResL Λ.fid S w lo cs us []
  | [], us, _, h => by simp only [RepL] at h; simp only [ResL]; exact ⟨h, by trivial⟩
  | c :: r, us, hp, h => by
    simp only [RepL] at h
    obtain ⟨u, t, rfl, h1, h2⟩ := h
    simp only [pureL, Bool.and_eq_true] at hp
    simp only [ResL]
    refine ⟨u, t, [], [], rfl, rfl, ?_, resL_pure hp.2 h2⟩
    cases c with
    | fsl _ _ _ _ => simp [pureAV] at hp
    | _ => exact ⟨rfl, h1, hp.1⟩
theorem result_ok {lo : Nat} {v r : AV} {u : Value} (hh : HRel Λ m S w hp ct) (hr : result hp v = some r) (hv : Rep Λ.fid m S w v u) (hlo : ∀ b, Own m hp b → lo ≤ b) :
    ∃ S', (∀ b, S b → S' b) ∧ (∀ b, S' b → S b ∨ Own m hp b) ∧ (∀ b, S' b → b < w.heap.size) ∧ ResV Λ.fid S' w lo r u := by
  unfold result at hr
  split at hr
  · rename_i vs
    split at hr
    · cases h1 : fresh1L deep hp vs with
      | none => simp [h1] at hr
      | some q =>
        obtain ⟨vs', hp'⟩ := q
        simp only [h1, Option.some.injEq] at hr
        subst hr
        simp only [Rep] at hv
        obtain ⟨us, rfl, hv⟩ := hv
        obtain ⟨S', bs, g1, g2, g3, g4, g5, g6⟩ := fresh1L_ok (lo := lo) hh h1 hv hlo
        exact ⟨S', g1, g2, g6, us, bs, rfl, g3, g4⟩
    · cases h1 : freeze deep hp (.tup vs) with
      | none => simp [h1] at hr
      | some q =>
        obtain ⟨v', hp'⟩ := q
        simp only [h1, Option.some.injEq] at hr
        subst hr
        obtain ⟨S', g1, g2, g3, g4, g5, g6⟩ := res_frozen (lo := lo) hh h1 hv
        refine ⟨S', g2, g3, g1.slt, ?_⟩
        cases v' with
        | tup cs =>
          simp only [Rep] at g5
          obtain ⟨xs, rfl, g5⟩ := g5
          exact ⟨xs, [], rfl, resL_pure (by simpa [pureAV] using g4) g5, by simp⟩
        | _ => exact ⟨[], g6⟩
  · rename_i hnt
    cases h1 : fresh1 deep hp v with
    | none => simp [h1] at hr
    | some q =>
      obtain ⟨v', hp'⟩ := q
      simp only [h1, Option.some.injEq] at hr
      subst hr
      obtain ⟨S', bs, g1, g2, g3, g4, _⟩ := fresh1_ok (lo := lo) hh h1 hv hlo
      refine ⟨S', g2, g3, g1.slt, ?_⟩
      cases v' with
      | tup cs =>
        simp only [Res1] at g4
        obtain ⟨rfl, h2, h3⟩ := g4
        simp only [Rep] at h2
        obtain ⟨xs, rfl, h2⟩ := h2
        exact ⟨xs, [], rfl, resL_pure (by simpa [pureAV] using h3) h2, by simp⟩
      | _ => exact ⟨bs, g4⟩
end
end VE
end
