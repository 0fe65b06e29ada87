import Derived.Laws.CopyRow
import Derived.Laws.Cells
import Derived.Test.YteioemjpepbdgaaGreatDoorOps
set_option linter.all false
namespace VE
open Go
theorem add_mk (b o j : Nat) : (⟨b, o, none⟩ : Addr).add j = ⟨b, o + j, none⟩ := by
  unfold Addr.add; split <;> simp_all
section
variable {P : Program} {w : World}
theorem run_loadAgg (t : TypeId) (b o : Nat) (us : List Value) (ha : aggT P t = some true) (hz : szT P t = some us.length)
    (h : ∀ j u, us[j]? = some u → w.cell? ⟨b, o + j, none⟩ = some u) : (loadVar t ⟨b, o, none⟩).run P w = .ok (.agg us.toArray) w := by
  have hl := run_loadCells_list (P := P) w ⟨b, o, none⟩ us (fun j u hu => by rw [add_mk]; exact h j u hu)
  unfold szT at hz
  cases hi : P.info? t with
  | none => simp [hi] at hz
  | some i =>
    simp only [hi, Option.some.injEq] at hz
    unfold aggT at ha
    cases hu : P.underlying t with
    | none => simp [hu] at ha
    | some d => cases d <;> simp_all [loadVar, isAgg, Go.sizeOf, typeInfo, underlying]
theorem run_loadOne (t : TypeId) (b o : Nat) (u : Value) (ha : aggT P t = some false)
    (h : w.cell? ⟨b, o, none⟩ = some u) : (loadVar t ⟨b, o, none⟩).run P w = .ok u w := by
  unfold aggT at ha
  cases hu : P.underlying t with
  | none => simp [hu] at ha
  | some d => cases d <;> simp_all [loadVar, isAgg, underlying]
end
section
variable {Λ : Link} {m : Mp} {S : Nat → Prop} {w : World}
theorem load_ok {t : TypeId} {sz : Nat} {ag : Bool} {cs : List AV} {b o : Nat} {v : AV} (hz : szT Λ.P t = some sz) (ha : aggT Λ.P t = some ag)
    (hr : RepAt Λ.fid m S w cs b o) (hv : ld1 sz ag cs = some v) : ∃ u, (loadVar t ⟨b, o, none⟩).run Λ.P w = .ok u w ∧ Rep Λ.fid m S w v u := by
  cases ag with
  | true =>
    simp only [ld1, cond_true] at hv
    cases hle : Nat.ble sz cs.length with
    | false => simp only [hle, cond_false] at hv; cases hv
    | true =>
      simp only [hle, cond_true, Option.some.injEq] at hv
      subst hv
      obtain ⟨us, h1, h2, h3⟩ := repAt_vals _ _ _ (repAt_take sz cs b o hr)
      have hlen : us.length = sz := by
        rw [h2, List.length_take]; have := Nat.le_of_ble_eq_true hle; omega
      refine ⟨.agg us.toArray, run_loadAgg t b o us ha (by rw [hlen]; exact hz) h3, ?_⟩
      simp only [Rep]
      exact ⟨us.toArray, rfl, by simpa using h1⟩
  | false =>
    simp only [ld1, cond_false] at hv
    cases cs with
    | nil => simp at hv
    | cons c cs =>
      simp only [Option.some.injEq] at hv
      subst hv
      simp only [RepAt] at hr
      obtain ⟨⟨u, h1, h2⟩, _⟩ := hr
      exact ⟨u, run_loadOne t b o u ha h1, h2⟩
theorem part_ok {t : TypeId} {sz o : Nat} {ag : Bool} {cs : List AV} {xs : Array Value} {v : AV} (hz : szT Λ.P t = some sz) (ha : aggT Λ.P t = some ag)
    (hr : RepL Λ.fid m S w cs xs.toList) (hv : ld1 sz ag (cs.drop o) = some v) : ∃ u, (part t xs o).run Λ.P w = .ok u w ∧ Rep Λ.fid m S w v u := by
  have hd : ∀ (k : Nat) (cs : List AV) (us : List Value), RepL Λ.fid m S w cs us → RepL Λ.fid m S w (cs.drop k) (us.drop k) := by
    intro k
    induction k with
    | zero => intro cs us h; simpa using h
    | succ k ih =>
      intro cs us h
      cases cs with
      | nil => simp only [RepL] at h; subst h; simp [RepL]
      | cons c cs => simp only [RepL] at h; obtain ⟨u, r, rfl, _, h3⟩ := h; simpa using ih cs r h3
  have htk : ∀ (k : Nat) (cs : List AV) (us : List Value), RepL Λ.fid m S w cs us → RepL Λ.fid m S w (cs.take k) (us.take k) := by
    intro k
    induction k with
    | zero => intro cs us h; simp [RepL]
    | succ k ih =>
      intro cs us h
      cases cs with
      | nil => simp only [RepL] at h; subst h; simp [RepL]
      | cons c cs => simp only [RepL] at h; obtain ⟨u, r, rfl, h2, h3⟩ := h; simp only [List.take_succ_cons, RepL]; exact ⟨u, _, rfl, h2, ih cs r h3⟩
  have hagg : (isAgg t).run Λ.P w = .ok ag w := by
    unfold aggT at ha
    cases hu : Λ.P.underlying t with
    | none => simp [hu] at ha
    | some d => cases d <;> simp_all [isAgg, underlying]
  have hsz : (Go.sizeOf t).run Λ.P w = .ok sz w := by
    unfold szT at hz
    cases hi : Λ.P.info? t with
    | none => simp [hi] at hz
    | some i => simp_all [Go.sizeOf, typeInfo]
  have hr' := hd o cs xs.toList hr
  cases ag with
  | true =>
    simp only [ld1, cond_true] at hv
    cases hle : Nat.ble sz (cs.drop o).length with
    | false => simp only [hle, cond_false] at hv; cases hv
    | true =>
      simp only [hle, cond_true, Option.some.injEq] at hv
      subst hv
      refine ⟨.agg (xs.extract o (o + sz)), by simp [part, Sem.run_bind, hagg, hsz], ?_⟩
      simp only [Rep]
      refine ⟨_, rfl, ?_⟩
      have := htk sz _ _ hr'
      rw [show (xs.extract o (o + sz)).toList = (xs.toList.drop o).take sz by simp [Array.toList_extract, List.extract_eq_take_drop]]
      exact this
  | false =>
    simp only [ld1, cond_false] at hv
    cases hc : cs.drop o with
    | nil => simp [hc] at hv
    | cons c r =>
      simp only [hc, Option.some.injEq] at hv
      subst hv
      rw [hc] at hr'
      simp only [RepL] at hr'
      obtain ⟨u, us, h1, h2, _⟩ := hr'
      have hx : xs[o]? = some u := by
        have : xs.toList[o]? = some u := by
          have := congrArg (fun l => l[0]?) h1
          simpa using this
        simpa using this
      exact ⟨u, by simp [part, Sem.run_bind, hagg, hx], h2⟩
end
end VE
