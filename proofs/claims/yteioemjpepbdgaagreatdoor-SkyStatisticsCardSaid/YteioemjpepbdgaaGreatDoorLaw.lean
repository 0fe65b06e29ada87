import Derived.ChangeSame
import Derived.OpenShut
import Derived.Test.YteioemjpepbdgaaGreatDoorAgain
set_option linter.all false
namespace VE
open Go Go.ChangeShapes Go.WideShapes
section
variable {H : Type} {enc : TypeId × Value → H} {P : Program} {W W' : World}
theorem kept_calm (hc : Calm W W') (may : MemPlace → Prop) : W.keptBut W' may := by
  refine ⟨hc.os, hc.output, fun i hi => ?_⟩
  rw [hc.same i hi]
  cases hq : W.heap[i]? with
  | none => rfl
  | some o => cases o <;> simp
theorem frozen_calm (hc : Calm W W') {b off : Nat} (hb : b < W.heap.size) : W'.frozen? ⟨b, off, none⟩ = W.frozen? ⟨b, off, none⟩ := by
  unfold World.frozen?
  simp only
  rw [hc.same b hb]
theorem law_post {fn : Func} {s : ChangeSpec} {apart fresh handsOn again : Bool} {args : Array Value} {ds gs : List (DataW H)} {before : List MemPlace} {n : Nat} {tb : TypeId}
    (hW : DataW.Whole enc P fn.params.toList s.vars apart W args.toList ds gs before) (hv : s.vars = []) (hflat : fn.params.toList.all (flat P n) = true) (hc : Calm W W')
    (hfn : s.fn H (ds ++ gs) = { results := [.lit (.bool true)], args := ds }) (hres : fn.resultTypes = #[tb]) (htb : P.underlying tb = some .bool) :
    s.post enc P fn apart fresh handsOn again W args (.bool true) W' := by
  have hlt := hW.lt
  have hW0 := hW
  obtain ⟨p, q, hA, hV, hpq, hz, hn⟩ := hW
  rw [hv] at hV
  have hq : gs = [] ∧ q = [] := by
    cases gs with
    | nil => exact ⟨rfl, by simpa only [DataW.TrodVars] using hV⟩
    | cons g gs => simp [DataW.TrodVars] at hV
  obtain ⟨rfl, rfl⟩ := hq
  have hbp : before = p := by rw [hpq]; simp
  subst hbp
  have hargs : ∀ sp : Nat → Bool, (∀ p ∈ before, sp p.block = true) → DataW.TrodAll enc P W' 0 sp true fn.params.toList args.toList ds before := fun sp h => trodAll_again hc.same hflat hA h
  have hres' : ∀ (b : Nat) (sp : Nat → Bool) (hd : Bool), DataW.TrodAll enc P W' b sp hd fn.resultTypes.toList ((Value.bool true).resultList fn.resultTypes.size) [.lit (.bool true)] [] := by
    intro b sp hd
    rw [hres]
    refine ⟨[], [], ⟨1, ?_⟩, rfl, rfl⟩
    simp [DataW.trod, htb, Value.cells]
  have hold : ∀ p ∈ before, (fun b => decide (b < W.heap.size)) p.block = true := fun p hp => by simpa using hlt p hp
  have hvars : ∀ sp : Nat → Bool, DataW.TrodVars enc P W' sp s.vars ([] : List (DataW H)) [] := fun sp => by rw [hv]; rfl
  refine ⟨ds, [], before, [], before, [], hW0, by rw [hfn]; exact hres' _ _ _, by rw [hfn]; exact hargs _ hold, by rw [hfn]; exact hvars _, kept_calm hc _, fun _ => ?_⟩
  refine ⟨?_, [.lit (.bool true)] ++ ds, [], [] ++ before ++ [], ⟨[] ++ before, [], trodAll_append (hargs _ (fun _ _ => rfl)) (hres' _ _ _), hvars _, rfl, ?_, ?_⟩, ?_⟩
  · intro j t r h1 h2
    rw [hres] at h1 h2
    cases j with
    | zero =>
      simp only [List.getElem?_toArray, List.getElem?_cons_zero, Option.some.injEq] at h1
      simp only [Value.resultList, List.size_toArray, List.length_cons, List.length_nil, if_true, Nat.zero_add, List.getElem?_cons_zero, Option.some.injEq] at h2
      subst h1; subst h2
      simp [Value.okWide, htb, Cell.okWide, Cell.ok]
    | succ j => simp at h1
  · intro b off hp
    have hp : MemPlace.cell b off ∈ before := by simpa using hp
    rw [frozen_calm hc (b := b) (hlt _ hp)]
    exact hz b off hp
  · intro ha
    have := hn ha
    simpa using this
  · intro p hp _
    simpa using hp
theorem law_calls {Λ : Link} {n k : Nat} {fn : Func} {s : ChangeSpec} {apart fresh handsOn again : Bool} {base : Nat} {args : Array Value} {ds gs : List (DataW H)} {before : List MemPlace} {tb : TypeId}
    (hp : PureC Λ n (argsAV Λ.P k fn.params.toList ds) (.bool true)) (hw0 : Λ.w0 = W) (hfn : Λ.P.funcs[Λ.fid n]? = some fn) (hb : fn.body.isSome = true) (hnn : fn.name ≠ "runtime.NumGoroutine")
    (hval : ∀ (j : Nat) t v, fn.params[j]? = some t → args[j]? = some v → Value.okWide Λ.P W .any base t v)
    (hW : DataW.Whole enc Λ.P fn.params.toList s.vars apart W args.toList ds gs before) (hv : s.vars = []) (hflat : fn.params.toList.all (flat Λ.P k) = true)
    (hfs : s.fn H (ds ++ gs) = { results := [.lit (.bool true)], args := ds }) (hres : fn.resultTypes = #[tb]) (htb : Λ.P.underlying tb = some .bool) :
    Calls Λ.P (Λ.fid n) args W fun e W' => ∃ v, e = .returned v ∧ s.post enc Λ.P fn apart fresh handsOn again W args v W' := by
  have hA := hW
  obtain ⟨p, q, hA, _⟩ := hA
  obtain ⟨h1, h2⟩ := args_rep (fid := Λ.fid) (m := noM) (S := fun b => b < W.heap.size) (fun b hb => hb) hflat hA (fun j t v a b => hval j t v (by simpa using a) (by simpa using b))
  have hi := hp W (fun b => b < W.heap.size) args ⟨fun b _ => by rw [hw0], by rw [hw0]; exact Nat.le_refl _⟩ (fun b hb => hb) h1 h2
  have key : ∀ e W', PurePost Λ W (fun b => b < W.heap.size) (.bool true) e W' → ∃ v, e = .returned v ∧ s.post enc Λ.P fn apart fresh handsOn again W args v W' := by
    rintro e W' ⟨u, S', rfl, hc, _, _, _, hr⟩
    simp only [ResV, Res1, Rep] at hr
    obtain ⟨_, _, hu, _⟩ := hr
    subst hu
    exact ⟨_, rfl, law_post hW hv hflat hc hfs hres htb⟩
  rcases hi with ⟨_, hi⟩ | ⟨u, w', hi, _⟩
  · exact callsIn_wide.1 (hi.mono key)
  · rw [enter_of hfn hb hnn] at hi
    cases hi
end
end VE
