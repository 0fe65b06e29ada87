import Derived.Test.YtmjadjhlhjldjaaGreatDoorGo
import Derived.Test.YtmjadjhlhjldjaaGreatDoorLaws
import Derived.Test.YtmjadjhlhjldjaaGreatDoorCodeN
set_option linter.all false
section
/- Pseudorandom permutations: both programs' walks. -/
set_option maxRecDepth 100000
namespace VE
namespace Nd
open Go (IntKind)

section
variable {P : Prog} {L : Lib}

/-- A call on values answers. -/
abbrev Ans (P : Prog) (L : Lib) (f : Nat) (vals : List AV) (r : AV) : Prop := callPure P L (D P L) f vals = some r

theorem stS {hp : Hp} {ct id o : Nat} {v : Int} {ex : Bool} {l : List Int} (h : o < l.length) : stC hp ct id o 1 [.int .i64 v] (some (.cells true true ex 1 (l.map I64))) = some (.tup [], hset hp id (.cells true true ex 1 ((l.set o v).map I64)), ct) := by
  rw [stC_n (by rfl) (by simp; omega) (by rfl)]
  have : over o [AV.int .i64 v] (l.map I64) = (l.set o v).map I64 := by
    simp only [over, List.length_cons, List.length_nil, Nat.zero_add]
    rw [List.map_set, List.set_eq_take_append_cons_drop, if_pos (by simpa using h)]
    simp
  rw [this]
  rfl

theorem dropS {l : List Int} {o : Nat} (h : o < l.length) : List.drop o (l.map I64) = AV.int .i64 (l.getD o 0) :: List.drop (o + 1) (l.map I64) := by
  rw [List.drop_eq_getElem_cons (by simpa using h)]
  simp [List.getD_eq_getElem?_getD, List.getElem?_eq_getElem h]

theorem w124 (h : Has P L 124 c124) (b : Bool) (n : Int) : Ans P L 124 [.bool b, I64 n] (I64 (if b = true then n else 0)) := by
  unfold Ans; rw [call_eq h]
  cases b with
  | true => simp only [go_sem, Nat.reduceEqDiff, Nat.reduceAdd, Nat.reduceMul, Nat.reduceLT, Nat.reduceLeDiff, Nat.mul_one, c124, if_true]
  | false => simp only [go_sem, Nat.reduceEqDiff, Nat.reduceAdd, Nat.reduceMul, Nat.reduceLT, Nat.reduceLeDiff, Nat.mul_one, c124]; rfl

theorem w206 (h : Has P L 206 c206) (h124 : Has P L 124 c124) (n lo hi : Int) : Ans P L 206 [I64 n, I64 lo, I64 hi] (I64 (if n < lo ∨ hi < n then 3 else 0)) := by
  unfold Ans; rw [call_eq h]
  by_cases h1 : n < lo
  · simp only [go_sem, Nat.reduceEqDiff, Nat.reduceAdd, Nat.reduceMul, Nat.reduceLT, Nat.reduceLeDiff, Nat.mul_one, c206, h1, true_or, if_true, w124 h124]
  · by_cases h2 : hi < n
    · simp only [go_sem, Nat.reduceEqDiff, Nat.reduceAdd, Nat.reduceMul, Nat.reduceLT, Nat.reduceLeDiff, Nat.mul_one, c206, h1, h2, or_true, if_true, w124 h124]
    · simp only [go_sem, Nat.reduceEqDiff, Nat.reduceAdd, Nat.reduceMul, Nat.reduceLT, Nat.reduceLeDiff, Nat.mul_one, c206, h1, h2, or_self, if_false, w124 h124]; rfl

theorem w125 (h : Has P L 125 c125) {v : AV} {l : List Int} (hv : IsI v l) (hl : l.length ≤ 1000000) : Ans P L 125 [v] (I64 (firstI l)) := by
  unfold Ans; rw [call_eq h]
  simp only [go_sem, Nat.reduceEqDiff, Nat.reduceAdd, Nat.reduceMul, Nat.reduceLT, Nat.reduceLeDiff, Nat.mul_one, c125, hv.len, hv.pu, hv.frz, hv.shut, hv.shut1, hv.res, hv.one, hv.cells]
  have key := loop_ind (P := P) (L := L) (live := [5, 6, 7]) (a := c125_0)
    (I := fun k s => ∃ tm ct i, s = ⟨tm, [], ct, 0⟩ ∧ tget tm 5 = v ∧ tget tm 6 = I64 l.length ∧ tget tm 7 = I64 (i : Nat) ∧ i + k = l.length ∧ firstI (l.drop i) = firstI l)
    (Q := fun ex s => ∃ tm, s = ⟨tm, [], 0, 0⟩ ∧ ((ex = .ret ∧ tget tm 2 = I64 (firstI l)) ∨ (ex = .exit 0 ∧ firstI l = 0))) ?_ l.length
  · generalize hq : D P L (.loop [5, 6, 7] c125_0) _ = q
    obtain ⟨ex, s, rfl, tm, rfl, h2⟩ := of_key hq key ⟨_, _, 0, rfl, rfl, rfl, rfl, by omega, rfl⟩
    rcases h2 with ⟨rfl, h2⟩ | ⟨rfl, h2⟩
    · simp only [go_sem, Nat.reduceEqDiff, Nat.reduceAdd, Nat.reduceMul, Nat.reduceLT, Nat.reduceLeDiff, Nat.mul_one, h2]
    · rw [h2]; simp only [go_sem, Nat.reduceEqDiff, Nat.reduceAdd, Nat.reduceMul, Nat.reduceLT, Nat.reduceLeDiff, Nat.mul_one]
  · rintro k s ⟨tm, ct, i, rfl, h5, h6, h7, hk, hf⟩
    rw [compact_pure (by simp only [go_sem, Nat.reduceEqDiff, Nat.reduceAdd, Nat.reduceMul, Nat.reduceLT, Nat.reduceLeDiff, Nat.mul_one, h5, h6, h7, hv.len, hv.pu, hv.frz, hv.shut, hv.shut1, hv.res, hv.one, hv.cells])]
    simp only [go_sem, Nat.reduceEqDiff, Nat.reduceAdd, Nat.reduceMul, Nat.reduceLT, Nat.reduceLeDiff, Nat.mul_one, h5, h6, h7, c125_0]
    by_cases hi : i < l.length
    · have hi' : (i : Int) < l.length := by omega
      rw [firstI_drop hi] at hf
      by_cases hz : l[i] = 0
      · left
        simp only [go_sem, Nat.reduceEqDiff, Nat.reduceAdd, Nat.reduceMul, Nat.reduceLT, Nat.reduceLeDiff, Nat.mul_one, hi', hv.ixa hi, hz]
        refine ⟨_, k - 1, rfl, by omega, _, _, i + 1, rfl, ?_⟩
        rw [wrap64 (by omega) (by omega)]
        rw [if_pos hz] at hf
        simp only [go_sem, Nat.reduceEqDiff, Nat.reduceAdd, Nat.reduceMul, Nat.reduceLT, Nat.reduceLeDiff, Nat.mul_one]
        exact ⟨trivial, trivial, rfl, by omega, hf⟩
      · right
        simp only [go_sem, Nat.reduceEqDiff, Nat.reduceAdd, Nat.reduceMul, Nat.reduceLT, Nat.reduceLeDiff, Nat.mul_one, hi', hv.ixa hi, hz]
        rw [if_neg hz] at hf
        refine ⟨_, _, rfl, by simp, _, rfl, .inl ⟨rfl, ?_⟩⟩
        simp only [go_sem, Nat.reduceEqDiff, Nat.reduceAdd, Nat.reduceMul, Nat.reduceLT, Nat.reduceLeDiff, Nat.mul_one, hf]
    · right
      have hi' : ¬ (i : Int) < l.length := by omega
      simp only [go_sem, Nat.reduceEqDiff, Nat.reduceAdd, Nat.reduceMul, Nat.reduceLT, Nat.reduceLeDiff, Nat.mul_one, hi']
      refine ⟨_, _, rfl, by simp, _, rfl, .inr ⟨rfl, ?_⟩⟩
      rw [← hf, List.drop_eq_nil_of_le (by omega)]
      rfl

theorem w59 (h : Has P L 59 c59) {v w : AV} {l m : List Int} (hv : IsI v l) (hw : IsI w m) (hl : l.length ≤ 1000000) (he : l = m) : Ans P L 59 [v, w] (.bool true) := by
  subst he
  have key := loop_can (P := P) (L := L) (live := [0, 1, 5]) (a := c59_0)
    (I := fun k st => ∃ i : Nat, st = ⟨[(0, v), (1, w), (5, I64 i)], [], 0, 0⟩ ∧ i + k = l.length)
    (Q := fun ex st => ∃ tm ct, st = ⟨tm, [], ct, 0⟩ ∧ ex = .exit 0) ?_
  · unfold Ans; rw [call_eq h]
    simp only [go_sem, Nat.reduceEqDiff, Nat.reduceAdd, Nat.reduceMul, Nat.reduceLT, Nat.reduceLeDiff, Nat.mul_one, c59, hv.len, hv.pu, hv.frz, hv.shut, hv.shut1, hv.res, hv.one, hv.cells, hw.len, hw.pu, hw.frz, hw.shut, hw.shut1, hw.res, hw.one, hw.cells]
    generalize hq : D P L (.loop [0, 1, 5] c59_0) _ = q
    obtain ⟨ex, st, rfl, tm, ct, rfl, rfl⟩ := of_key hq (key l.length) ⟨0, by simp only [go_sem, Nat.reduceEqDiff, Nat.reduceAdd, Nat.reduceMul, Nat.reduceLT, Nat.reduceLeDiff, Nat.mul_one, compact0, refs_pure hv.pu, ren_pure _ hv.pu, refs_pure hw.pu, ren_pure _ hw.pu] <;> rfl, by omega⟩
    simp only [go_sem, Nat.reduceEqDiff, Nat.reduceAdd, Nat.reduceMul, Nat.reduceLT, Nat.reduceLeDiff, Nat.mul_one]
  · rintro k st ⟨i, rfl, hk⟩
    simp only [go_sem, Nat.reduceEqDiff, Nat.reduceAdd, Nat.reduceMul, Nat.reduceLT, Nat.reduceLeDiff, Nat.mul_one, c59_0, hv.len, hv.pu, hv.frz, hv.shut, hv.shut1, hv.res, hv.one, hv.cells, hw.len, hw.pu, hw.frz, hw.shut, hw.shut1, hw.res, hw.one, hw.cells]
    by_cases hi : i < l.length
    · have hi' : (i : Int) < l.length := by omega
      left
      simp only [go_sem, Nat.reduceEqDiff, Nat.reduceAdd, Nat.reduceMul, Nat.reduceLT, Nat.reduceLeDiff, Nat.mul_one, hi', hv.ixa hi, hw.ixa hi]
      refine ⟨_, k - 1, rfl, by omega, i + 1, ?_, by omega⟩
      rw [wrap64 (by omega) (by omega)]
      simp only [go_sem, Nat.reduceEqDiff, Nat.reduceAdd, Nat.reduceMul, Nat.reduceLT, Nat.reduceLeDiff, Nat.mul_one, compact0, refs_pure hv.pu, ren_pure _ hv.pu, refs_pure hw.pu, ren_pure _ hw.pu] <;> rfl
    · right
      simp only [go_sem, Nat.reduceEqDiff, Nat.reduceAdd, Nat.reduceMul, Nat.reduceLT, Nat.reduceLeDiff, Nat.mul_one, show ¬ (i : Int) < l.length by omega]
      exact ⟨_, _, rfl, by simp, _, _, rfl, rfl⟩


/-- One step of the shuffle. -/
theorem next_k {x : Int} (hx : 0 ≤ x ∧ x ≤ 2147483646) {i : Nat} : (39373 * x).tmod 2147483647 = nextX x ∧ ∃ k : Nat, (nextX x).tmod ((i : Int) + 1) = (k : Int) ∧ (nextX x % ((i : Int) + 1)).toNat = k ∧ k ≤ i := by
  have hb := nextX_bound x
  refine ⟨Int.tmod_eq_emod_of_nonneg (by omega), ?_⟩
  refine ⟨(nextX x % ((i : Int) + 1)).toNat, ?_, rfl, ?_⟩
  · rw [Int.tmod_eq_emod_of_nonneg (by omega)]
    have := Int.emod_nonneg (nextX x) (show (i : Int) + 1 ≠ 0 by omega)
    omega
  · have := Int.emod_nonneg (nextX x) (show (i : Int) + 1 ≠ 0 by omega)
    have := Int.emod_lt_of_pos (nextX x) (show (0 : Int) < (i : Int) + 1 by omega)
    omega

theorem w180_1 {n : Nat} (hn : n ≤ 256) (R : List Int) :
    ∀ k s, (∃ (i : Nat) (x : Int) (l : List Int), compact [7, 9, 10] s = ⟨[(7, .osl 0 0 n), (9, I64 x), (10, I64 i)], [(0, .cells true true false 1 (l.map I64))], 1, 0⟩ ∧ (0 ≤ x ∧ x ≤ 2147483646) ∧ l.length = n ∧ i < n ∧ shuf i x l = R ∧ i = k) →
      ∃ ex s', D P L (.loop [7, 9, 10] c180_1) s = some (ex, s') ∧ ∃ tm, s' = ⟨tm, [(0, .cells true true false 1 (R.map I64))], 1, 0⟩ ∧ ex = .exit 2 ∧ tget tm 7 = .osl 0 0 n ∧ R.length = n := by
  refine loop_can (I := fun k s => ∃ (i : Nat) (x : Int) (l : List Int), s = ⟨[(7, .osl 0 0 n), (9, I64 x), (10, I64 i)], [(0, .cells true true false 1 (l.map I64))], 1, 0⟩ ∧ (0 ≤ x ∧ x ≤ 2147483646) ∧ l.length = n ∧ i < n ∧ shuf i x l = R ∧ i = k)
    (Q := fun ex s' => ∃ tm, s' = ⟨tm, [(0, .cells true true false 1 (R.map I64))], 1, 0⟩ ∧ ex = .exit 2 ∧ tget tm 7 = .osl 0 0 n ∧ R.length = n) ?_
  rintro k s ⟨i, x, l, rfl, hx, hl, hi, hR, rfl⟩
  cases i with
  | zero =>
    right
    simp only [go_sem, Nat.reduceEqDiff, Nat.reduceAdd, Nat.reduceMul, Nat.reduceLT, Nat.reduceLeDiff, Nat.mul_one, c180_1, show ¬ (0 : Int) < ((0 : Nat) : Int) by omega]
    refine ⟨_, _, rfl, by simp, _, by rw [← hR]; rfl, rfl, by simp only [go_sem, Nat.reduceEqDiff, Nat.reduceAdd, Nat.reduceMul, Nat.reduceLT, Nat.reduceLeDiff, Nat.mul_one], by rw [← hR]; exact hl⟩
  | succ i =>
    left
    obtain ⟨e1, κ, e2, e3, e4⟩ := next_k hx (i := i + 1)
    have hb := nextX_bound x
    have c1 : ((i + 1 : Nat) : Int) + 1 = ((i + 2 : Nat) : Int) := by omega
    simp only [go_sem, Nat.reduceEqDiff, Nat.reduceAdd, Nat.reduceMul, Nat.reduceLT, Nat.reduceLeDiff, Nat.mul_one, c180_1, show (0 : Int) < ((i + 1 : Nat) : Int) by omega, wrap64 (n := 39373 * x) (by omega) (by omega), bin_rem _ _ _ (show (2147483647 : Int) ≠ 0 by decide), e1, wrap64 (n := ((i + 1 : Nat) : Int) + 1) (by omega) (by omega), bin_rem _ _ _ (show ((i + 1 : Nat) : Int) + 1 ≠ 0 by omega), e2, ixa_osl 0 0 (show κ < n by omega), ixa_osl 0 0 (show i + 1 < n by omega), Nat.zero_add, dropS (l := l) (o := κ) (by omega), dropS (l := l) (o := i + 1) (by omega), stS (l := l) (o := i + 1) (by omega), stS (l := l.set (i + 1) (l.getD κ 0)) (o := κ) (by simp; omega)]
    refine ⟨_, i, rfl, by omega, i, nextX x, swapL l (i + 1) κ, ?_, ⟨by omega, by omega⟩, by rw [swapL_len]; exact hl, by omega, ?_, rfl⟩
    · simp only [go_sem, Nat.reduceEqDiff, Nat.reduceAdd, Nat.reduceMul, Nat.reduceLT, Nat.reduceLeDiff, Nat.mul_one, compact0, show ((i + 1 : Nat) : Int) - 1 = (i : Int) by omega, wrap64 (n := (i : Int)) (by omega) (by omega)]
      rfl
    · rw [← hR, ← e3]
      show _ = shuf i (nextX x) (swapL l (i + 1) (nextX x % ((i : Int) + 2)).toNat)
      rw [show ((i + 1 : Nat) : Int) + 1 = (i : Int) + 2 by omega]

theorem w180_0 {n : Nat} (hn : n ≤ 256) (key : Int) :
    ∀ k s, (∃ i : Nat, i + k = n ∧ ((i = 0 ∧ compact [0, 1, 7, 21, 22] s = ⟨[(0, I64 key), (1, I64 n), (7, .nils), (21, I64 n), (22, I64 i)], [], 0, 0⟩) ∨
        (0 < i ∧ compact [0, 1, 7, 21, 22] s = ⟨[(0, I64 key), (1, I64 n), (7, .osl 0 0 i), (21, I64 n), (22, I64 i)], [(0, .cells true true false 1 ((idL i).map I64))], 1, 0⟩))) →
      ∃ ex s', D P L (.loop [0, 1, 7, 21, 22] c180_0) s = some (ex, s') ∧ ∃ tm, ex = .exit 0 ∧ tget tm 0 = I64 key ∧ tget tm 1 = I64 n ∧ ((n = 0 ∧ tget tm 7 = .nils ∧ s' = ⟨tm, [], 0, 0⟩) ∨ (0 < n ∧ tget tm 7 = .osl 0 0 n ∧ s' = ⟨tm, [(0, .cells true true false 1 ((idL n).map I64))], 1, 0⟩)) := by
  refine loop_can (I := fun k s => ∃ i : Nat, i + k = n ∧ ((i = 0 ∧ s = ⟨[(0, I64 key), (1, I64 n), (7, .nils), (21, I64 n), (22, I64 i)], [], 0, 0⟩) ∨
        (0 < i ∧ s = ⟨[(0, I64 key), (1, I64 n), (7, .osl 0 0 i), (21, I64 n), (22, I64 i)], [(0, .cells true true false 1 ((idL i).map I64))], 1, 0⟩)))
    (Q := fun ex s' => ∃ tm, ex = .exit 0 ∧ tget tm 0 = I64 key ∧ tget tm 1 = I64 n ∧ ((n = 0 ∧ tget tm 7 = .nils ∧ s' = ⟨tm, [], 0, 0⟩) ∨ (0 < n ∧ tget tm 7 = .osl 0 0 n ∧ s' = ⟨tm, [(0, .cells true true false 1 ((idL n).map I64))], 1, 0⟩))) ?_
  rintro k s ⟨i, hk, hs⟩
  by_cases hi : i < n
  · left
    have hi' : (i : Int) < n := by omega
    rcases hs with ⟨h0, rfl⟩ | ⟨h0, rfl⟩
    · subst h0
      simp only [go_sem, Nat.reduceEqDiff, Nat.reduceAdd, Nat.reduceMul, Nat.reduceLT, Nat.reduceLeDiff, Nat.mul_one, c180_0, hi', app_nils]
      refine ⟨_, k - 1, rfl, by omega, 1, by omega, .inr ⟨by omega, ?_⟩⟩
      rw [wrap64 (by omega) (by omega)]
      simp only [go_sem, Nat.reduceEqDiff, Nat.reduceAdd, Nat.reduceMul, Nat.reduceLT, Nat.reduceLeDiff, Nat.mul_one, compact0]
      rfl
    · simp only [go_sem, Nat.reduceEqDiff, Nat.reduceAdd, Nat.reduceMul, Nat.reduceLT, Nat.reduceLeDiff, Nat.mul_one, c180_0, hi']
      rw [app_own (ex := false) (pu := true) (cs := (idL i).map I64) (by simp only [go_sem, Nat.reduceEqDiff, Nat.reduceAdd, Nat.reduceMul, Nat.reduceLT, Nat.reduceLeDiff, Nat.mul_one]) (by rw [List.length_map, idL_len, Nat.mul_one]) (by omega) (by omega) (by decide) (by simp only [go_sem, Nat.reduceEqDiff, Nat.reduceAdd, Nat.reduceMul, Nat.reduceLT, Nat.reduceLeDiff, Nat.mul_one])]
      simp only [go_sem, Nat.reduceEqDiff, Nat.reduceAdd, Nat.reduceMul, Nat.reduceLT, Nat.reduceLeDiff, Nat.mul_one]
      refine ⟨_, k - 1, rfl, by omega, i + 1, by omega, .inr ⟨by omega, ?_⟩⟩
      rw [wrap64 (by omega) (by omega), idL_succ, List.map_append]
      simp only [go_sem, Nat.reduceEqDiff, Nat.reduceAdd, Nat.reduceMul, Nat.reduceLT, Nat.reduceLeDiff, Nat.mul_one, compact0] <;> rfl
  · right
    have : i = n := by omega
    subst this
    rcases hs with ⟨h0, rfl⟩ | ⟨h0, rfl⟩
    · simp only [go_sem, Nat.reduceEqDiff, Nat.reduceAdd, Nat.reduceMul, Nat.reduceLT, Nat.reduceLeDiff, Nat.mul_one, c180_0, show ¬ (i : Int) < i by omega]
      exact ⟨_, _, rfl, by simp, _, rfl, by simp only [go_sem, Nat.reduceEqDiff, Nat.reduceAdd, Nat.reduceMul, Nat.reduceLT, Nat.reduceLeDiff, Nat.mul_one], by simp only [go_sem, Nat.reduceEqDiff, Nat.reduceAdd, Nat.reduceMul, Nat.reduceLT, Nat.reduceLeDiff, Nat.mul_one], .inl ⟨h0, by simp only [go_sem, Nat.reduceEqDiff, Nat.reduceAdd, Nat.reduceMul, Nat.reduceLT, Nat.reduceLeDiff, Nat.mul_one], rfl⟩⟩
    · simp only [go_sem, Nat.reduceEqDiff, Nat.reduceAdd, Nat.reduceMul, Nat.reduceLT, Nat.reduceLeDiff, Nat.mul_one, c180_0, show ¬ (i : Int) < i by omega]
      exact ⟨_, _, rfl, by simp, _, rfl, by simp only [go_sem, Nat.reduceEqDiff, Nat.reduceAdd, Nat.reduceMul, Nat.reduceLT, Nat.reduceLeDiff, Nat.mul_one], by simp only [go_sem, Nat.reduceEqDiff, Nat.reduceAdd, Nat.reduceMul, Nat.reduceLT, Nat.reduceLeDiff, Nat.mul_one], .inr ⟨h0, by simp only [go_sem, Nat.reduceEqDiff, Nat.reduceAdd, Nat.reduceMul, Nat.reduceLT, Nat.reduceLeDiff, Nat.mul_one], rfl⟩⟩

theorem w180 (h : Has P L 180 c180) (h206 : Has P L 206 c206) (h124 : Has P L 124 c124) (h125 : Has P L 125 c125) (key n : Int) :
    ∃ r, Ans P L 180 [I64 key, I64 n] (.tup [r, I64 (drawE key n)]) ∧ (if drawE key n = 0 then IsI (shut1 r) (drawL key n.toNat) else r = .nils) := by
  have h6a := w206 h206 h124 key 1 2147483646
  have h6b := w206 h206 h124 n 0 256
  have hf := w125 h125 (isI_vsl true [if key < 1 ∨ 2147483646 < key then 3 else 0, if n < 0 ∨ 256 < n then 3 else 0]) (by simp)
  unfold Ans at h6a h6b hf ⊢
  rw [call_eq h]
  have hE : firstI [if key < 1 ∨ 2147483646 < key then 3 else 0, if n < 0 ∨ 256 < n then 3 else 0] = drawE key n := by
    unfold drawE firstI firstI firstI
    by_cases h1 : key < 1 ∨ 2147483646 < key
    · simp [h1]
    · by_cases h2 : n < 0 ∨ 256 < n
      · simp [h1, h2]
      · simp [h1, h2]
  simp only [List.length_cons, List.length_nil, Nat.zero_add, Nat.reduceAdd, List.map_cons, List.map_nil] at hf
  rw [hE] at hf
  by_cases hz : drawE key n = 0
  · simp only [if_pos hz]
    have hb : (1 ≤ key ∧ key ≤ 2147483646) ∧ (0 ≤ n ∧ n ≤ 256) := by
      unfold drawE at hz
      split at hz
      · omega
      · split at hz
        · omega
        · omega
    obtain ⟨m, rfl⟩ : ∃ m : Nat, n = m := ⟨n.toNat, by omega⟩
    rw [hz] at hf ⊢
    simp only [go_sem, Nat.reduceEqDiff, Nat.reduceAdd, Nat.reduceMul, Nat.reduceLT, Nat.reduceLeDiff, Nat.mul_one, c180, h6a, h6b, hf]
    generalize hq : D P L (.loop [0, 1, 7, 21, 22] c180_0) _ = q
    obtain ⟨ex, s, rfl, tm, rfl, h0, h1, hs⟩ := of_key hq (w180_0 (P := P) (L := L) (n := m) (by omega) key m) ⟨0, by omega, .inl ⟨rfl, by simp only [go_sem, Nat.reduceEqDiff, Nat.reduceAdd, Nat.reduceMul, Nat.reduceLT, Nat.reduceLeDiff, Nat.mul_one, compact0] <;> rfl⟩⟩
    rcases hs with ⟨hm, h7, rfl⟩ | ⟨hm, h7, rfl⟩
    · subst hm
      rw [show drawL key ((0 : Nat) : Int).toNat = [] from rfl]
      simp only [go_sem, Nat.reduceEqDiff, Nat.reduceAdd, Nat.reduceMul, Nat.reduceLT, Nat.reduceLeDiff, Nat.mul_one, compact0, h0, h1, h7, D_loop, c180_1, wrap64 (n := ((0 : Nat) : Int) - 1) (by omega) (by omega), show ¬ (0 : Int) < ((0 : Nat) : Int) - 1 by omega]
      exact ⟨_, rfl, isL_nils⟩
    · simp only [go_sem, Nat.reduceEqDiff, Nat.reduceAdd, Nat.reduceMul, Nat.reduceLT, Nat.reduceLeDiff, Nat.mul_one, compact0, h0, h1, h7]
      generalize hq : D P L (.loop [7, 9, 10] c180_1) _ = q
      obtain ⟨ex, s, rfl, tm, rfl, rfl, h7, hl⟩ := of_key hq (w180_1 (P := P) (L := L) (n := m) (by omega) (drawL key m) (m - 1)) ⟨m - 1, key, idL m, by
        simp only [go_sem, Nat.reduceEqDiff, Nat.reduceAdd, Nat.reduceMul, Nat.reduceLT, Nat.reduceLeDiff, Nat.mul_one, compact0, show (m : Int) - 1 = ((m - 1 : Nat) : Int) by omega, wrap64 (n := ((m - 1 : Nat) : Int)) (by omega) (by omega)], by omega, idL_len m, by omega, rfl, rfl⟩
      simp only [go_sem, Nat.reduceEqDiff, Nat.reduceAdd, Nat.reduceMul, Nat.reduceLT, Nat.reduceLeDiff, Nat.mul_one, compact0, h7]
      refine ⟨_, result_tup_i (hget_hit _ _ _) (by simp [hl]) (by decide), ?_⟩
      have := isI_vsl false (drawL key m)
      rwa [hl] at this
  · simp only [if_neg hz]
    simp only [go_sem, Nat.reduceEqDiff, Nat.reduceAdd, Nat.reduceMul, Nat.reduceLT, Nat.reduceLeDiff, Nat.mul_one, c180, h6a, h6b, hf, hz]
    exact ⟨_, rfl, rfl⟩

theorem w181 (h : Has P L 181 c181) (key n : Int) : Ans P L 181 [I64 key, I64 n] (I64 (drawE key n)) := by
  unfold Ans drawE; rw [call_eq h]
  by_cases h1 : key < 1
  · simp only [go_sem, Nat.reduceEqDiff, Nat.reduceAdd, Nat.reduceMul, Nat.reduceLT, Nat.reduceLeDiff, Nat.mul_one, c181, h1, true_or, if_true]
  · by_cases h2 : 2147483646 < key
    · simp only [go_sem, Nat.reduceEqDiff, Nat.reduceAdd, Nat.reduceMul, Nat.reduceLT, Nat.reduceLeDiff, Nat.mul_one, c181, h1, h2, or_true, if_true]
    · by_cases h3 : n < 0
      · simp only [go_sem, Nat.reduceEqDiff, Nat.reduceAdd, Nat.reduceMul, Nat.reduceLT, Nat.reduceLeDiff, Nat.mul_one, c181, h1, h2, h3, or_self, true_or, if_true, if_false]
      · by_cases h4 : 256 < n
        · simp only [go_sem, Nat.reduceEqDiff, Nat.reduceAdd, Nat.reduceMul, Nat.reduceLT, Nat.reduceLeDiff, Nat.mul_one, c181, h1, h2, h3, h4, or_self, or_true, if_true, if_false]
        · simp only [go_sem, Nat.reduceEqDiff, Nat.reduceAdd, Nat.reduceMul, Nat.reduceLT, Nat.reduceLeDiff, Nat.mul_one, c181, h1, h2, h3, h4, or_self, if_false]

theorem w207_0 {n : Nat} (hn : n ≤ 256) :
    ∀ k s, (∃ i : Nat, i + k = n ∧ ((i = 0 ∧ compact [0, 3, 4] s = ⟨[(0, I64 n), (3, .nils), (4, I64 i)], [], 0, 0⟩) ∨
        (0 < i ∧ compact [0, 3, 4] s = ⟨[(0, I64 n), (3, .osl 0 0 i), (4, I64 i)], [(0, .cells true true false 1 ((idL i).map I64))], 1, 0⟩))) →
      ∃ ex s', D P L (.loop [0, 3, 4] c207_0) s = some (ex, s') ∧ ∃ tm, ex = .exit 0 ∧ ((n = 0 ∧ tget tm 3 = .nils ∧ s' = ⟨tm, [], 0, 0⟩) ∨ (0 < n ∧ tget tm 3 = .osl 0 0 n ∧ s' = ⟨tm, [(0, .cells true true false 1 ((idL n).map I64))], 1, 0⟩)) := by
  refine loop_can (I := fun k s => ∃ i : Nat, i + k = n ∧ ((i = 0 ∧ s = ⟨[(0, I64 n), (3, .nils), (4, I64 i)], [], 0, 0⟩) ∨
        (0 < i ∧ s = ⟨[(0, I64 n), (3, .osl 0 0 i), (4, I64 i)], [(0, .cells true true false 1 ((idL i).map I64))], 1, 0⟩)))
    (Q := fun ex s' => ∃ tm, ex = .exit 0 ∧ ((n = 0 ∧ tget tm 3 = .nils ∧ s' = ⟨tm, [], 0, 0⟩) ∨ (0 < n ∧ tget tm 3 = .osl 0 0 n ∧ s' = ⟨tm, [(0, .cells true true false 1 ((idL n).map I64))], 1, 0⟩))) ?_
  rintro k s ⟨i, hk, hs⟩
  by_cases hi : i < n
  · left
    have hi' : (i : Int) < n := by omega
    rcases hs with ⟨h0, rfl⟩ | ⟨h0, rfl⟩
    · subst h0
      simp only [go_sem, Nat.reduceEqDiff, Nat.reduceAdd, Nat.reduceMul, Nat.reduceLT, Nat.reduceLeDiff, Nat.mul_one, c207_0, hi', app_nils]
      refine ⟨_, k - 1, rfl, by omega, 1, by omega, .inr ⟨by omega, ?_⟩⟩
      rw [wrap64 (by omega) (by omega)]
      simp only [go_sem, Nat.reduceEqDiff, Nat.reduceAdd, Nat.reduceMul, Nat.reduceLT, Nat.reduceLeDiff, Nat.mul_one, compact0]
      rfl
    · simp only [go_sem, Nat.reduceEqDiff, Nat.reduceAdd, Nat.reduceMul, Nat.reduceLT, Nat.reduceLeDiff, Nat.mul_one, c207_0, hi']
      rw [app_own (ex := false) (pu := true) (cs := (idL i).map I64) (by simp only [go_sem, Nat.reduceEqDiff, Nat.reduceAdd, Nat.reduceMul, Nat.reduceLT, Nat.reduceLeDiff, Nat.mul_one]) (by rw [List.length_map, idL_len, Nat.mul_one]) (by omega) (by omega) (by decide) (by simp only [go_sem, Nat.reduceEqDiff, Nat.reduceAdd, Nat.reduceMul, Nat.reduceLT, Nat.reduceLeDiff, Nat.mul_one])]
      simp only [go_sem, Nat.reduceEqDiff, Nat.reduceAdd, Nat.reduceMul, Nat.reduceLT, Nat.reduceLeDiff, Nat.mul_one]
      refine ⟨_, k - 1, rfl, by omega, i + 1, by omega, .inr ⟨by omega, ?_⟩⟩
      rw [wrap64 (by omega) (by omega), idL_succ, List.map_append]
      simp only [go_sem, Nat.reduceEqDiff, Nat.reduceAdd, Nat.reduceMul, Nat.reduceLT, Nat.reduceLeDiff, Nat.mul_one, compact0] <;> rfl
  · right
    have : i = n := by omega
    subst this
    rcases hs with ⟨h0, rfl⟩ | ⟨h0, rfl⟩
    · simp only [go_sem, Nat.reduceEqDiff, Nat.reduceAdd, Nat.reduceMul, Nat.reduceLT, Nat.reduceLeDiff, Nat.mul_one, c207_0, show ¬ (i : Int) < i by omega]
      exact ⟨_, _, rfl, by simp, _, rfl, .inl ⟨h0, by simp only [go_sem, Nat.reduceEqDiff, Nat.reduceAdd, Nat.reduceMul, Nat.reduceLT, Nat.reduceLeDiff, Nat.mul_one], rfl⟩⟩
    · simp only [go_sem, Nat.reduceEqDiff, Nat.reduceAdd, Nat.reduceMul, Nat.reduceLT, Nat.reduceLeDiff, Nat.mul_one, c207_0, show ¬ (i : Int) < i by omega]
      exact ⟨_, _, rfl, by simp, _, rfl, .inr ⟨h0, by simp only [go_sem, Nat.reduceEqDiff, Nat.reduceAdd, Nat.reduceMul, Nat.reduceLT, Nat.reduceLeDiff, Nat.mul_one], rfl⟩⟩

/-- The own list of the numbers from 0 on. -/
theorem w207 (h : Has P L 207 c207) {n : Nat} (hn : n ≤ 256) : Ans P L 207 [I64 n] (if n = 0 then .nils else .fsl false 1 n ((idL n).map I64)) := by
  unfold Ans
  rw [call_eq h]
  simp only [go_sem, Nat.reduceEqDiff, Nat.reduceAdd, Nat.reduceMul, Nat.reduceLT, Nat.reduceLeDiff, Nat.mul_one, c207]
  generalize hq : D P L (.loop [0, 3, 4] c207_0) _ = q
  obtain ⟨ex, s, rfl, tm, rfl, hs⟩ := of_key hq (w207_0 (P := P) (L := L) hn n) ⟨0, by omega, .inl ⟨rfl, by simp only [go_sem, Nat.reduceEqDiff, Nat.reduceAdd, Nat.reduceMul, Nat.reduceLT, Nat.reduceLeDiff, Nat.mul_one, compact0] <;> rfl⟩⟩
  rcases hs with ⟨hm, h7, rfl⟩ | ⟨hm, h7, rfl⟩
  · rw [if_pos hm]
    simp only [go_sem, Nat.reduceEqDiff, Nat.reduceAdd, Nat.reduceMul, Nat.reduceLT, Nat.reduceLeDiff, Nat.mul_one, compact0, h7]
  · rw [if_neg (by omega)]
    simp only [go_sem, Nat.reduceEqDiff, Nat.reduceAdd, Nat.reduceMul, Nat.reduceLT, Nat.reduceLeDiff, Nat.mul_one, compact0, h7]
    exact result_own (hget_hit _ _ _) (by simp [idL_len]) (by decide)

theorem w183_0 {n : Nat} (hn : n ≤ 256) (R : List Int) :
    ∀ k s, (∃ (i : Nat) (x : Int) (l : List Int), compact [0, 5, 6] s = ⟨[(0, I64 x), (5, .osl 0 0 n), (6, I64 i)], [(0, .cells true true false 1 (l.map I64))], 1, 0⟩ ∧ (0 ≤ x ∧ x ≤ 2147483646) ∧ l.length = n ∧ i < n ∧ shuf i x l = R ∧ i = k) →
      ∃ ex s', D P L (.loop [0, 5, 6] c183_0) s = some (ex, s') ∧ ∃ tm, s' = ⟨tm, [(0, .cells true true false 1 (R.map I64))], 1, 0⟩ ∧ ex = .exit 0 ∧ tget tm 5 = .osl 0 0 n ∧ R.length = n := by
  refine loop_can (I := fun k s => ∃ (i : Nat) (x : Int) (l : List Int), s = ⟨[(0, I64 x), (5, .osl 0 0 n), (6, I64 i)], [(0, .cells true true false 1 (l.map I64))], 1, 0⟩ ∧ (0 ≤ x ∧ x ≤ 2147483646) ∧ l.length = n ∧ i < n ∧ shuf i x l = R ∧ i = k)
    (Q := fun ex s' => ∃ tm, s' = ⟨tm, [(0, .cells true true false 1 (R.map I64))], 1, 0⟩ ∧ ex = .exit 0 ∧ tget tm 5 = .osl 0 0 n ∧ R.length = n) ?_
  rintro k s ⟨i, x, l, rfl, hx, hl, hi, hR, rfl⟩
  cases i with
  | zero =>
    right
    simp only [go_sem, Nat.reduceEqDiff, Nat.reduceAdd, Nat.reduceMul, Nat.reduceLT, Nat.reduceLeDiff, Nat.mul_one, c183_0, show ¬ (0 : Int) < ((0 : Nat) : Int) by omega]
    refine ⟨_, _, rfl, by simp, _, by rw [← hR]; rfl, rfl, by simp only [go_sem, Nat.reduceEqDiff, Nat.reduceAdd, Nat.reduceMul, Nat.reduceLT, Nat.reduceLeDiff, Nat.mul_one], by rw [← hR]; exact hl⟩
  | succ i =>
    left
    obtain ⟨e1, κ, e2, e3, e4⟩ := next_k hx (i := i + 1)
    have hb := nextX_bound x
    simp only [go_sem, Nat.reduceEqDiff, Nat.reduceAdd, Nat.reduceMul, Nat.reduceLT, Nat.reduceLeDiff, Nat.mul_one, c183_0, show (0 : Int) < ((i + 1 : Nat) : Int) by omega, wrap64 (n := 39373 * x) (by omega) (by omega), bin_rem _ _ _ (show (2147483647 : Int) ≠ 0 by decide), e1, wrap64 (n := ((i + 1 : Nat) : Int) + 1) (by omega) (by omega), bin_rem _ _ _ (show ((i + 1 : Nat) : Int) + 1 ≠ 0 by omega), e2, ixa_osl 0 0 (show κ < n by omega), ixa_osl 0 0 (show i + 1 < n by omega), Nat.zero_add, dropS (l := l) (o := κ) (by omega), dropS (l := l) (o := i + 1) (by omega), stS (l := l) (o := i + 1) (by omega), stS (l := l.set (i + 1) (l.getD κ 0)) (o := κ) (by simp; omega)]
    refine ⟨_, i, rfl, by omega, i, nextX x, swapL l (i + 1) κ, ?_, ⟨by omega, by omega⟩, by rw [swapL_len]; exact hl, by omega, ?_, rfl⟩
    · simp only [go_sem, Nat.reduceEqDiff, Nat.reduceAdd, Nat.reduceMul, Nat.reduceLT, Nat.reduceLeDiff, Nat.mul_one, compact0, show ((i + 1 : Nat) : Int) - 1 = (i : Int) by omega, wrap64 (n := (i : Int)) (by omega) (by omega)]
      rfl
    · rw [← hR, ← e3]
      show _ = shuf i (nextX x) (swapL l (i + 1) (nextX x % ((i : Int) + 2)).toNat)
      rw [show ((i + 1 : Nat) : Int) + 1 = (i : Int) + 2 by omega]

end
end Nd
end VE
end
section
/- Pseudorandom permutations: the reference's, and the two laws. -/
set_option maxRecDepth 100000
namespace VE
namespace Nd
open Go (IntKind)
section
variable {P : Prog} {L : Lib}

theorem own_fsl (hp : Hp) (ct : Nat) (ex : Bool) (sz n : Nat) (cs : List AV) : own hp ct (.fsl ex sz n cs) = (.osl ct 0 n, (ct, .cells true true ex sz cs) :: hp, ct + 1) := rfl
theorem own_nils (hp : Hp) (ct : Nat) : own hp ct .nils = (.nils, hp, ct) := rfl

theorem w183 (h : Has P L 183 c183) (h207 : Has P L 207 c207) {key : Int} (hk : 1 ≤ key ∧ key ≤ 2147483646) {m : Nat} (hm : m ≤ 256) :
    ∃ r, Ans P L 183 [I64 key, I64 m] r ∧ IsI (shut r) (drawL key m) := by
  have h7 := w207 h207 hm
  unfold Ans at h7 ⊢
  rw [call_eq h]
  by_cases hz : m = 0
  · subst hz
    rw [if_pos rfl] at h7
    simp only [go_sem, Nat.reduceEqDiff, Nat.reduceAdd, Nat.reduceMul, Nat.reduceLT, Nat.reduceLeDiff, Nat.mul_one, c183, h7, own_nils, compact0, D_loop, c183_0, wrap64 (n := ((0 : Nat) : Int) - 1) (by omega) (by omega), show ¬ (0 : Int) < ((0 : Nat) : Int) - 1 by omega]
    exact ⟨_, rfl, isL_nils⟩
  · rw [if_neg hz] at h7
    simp only [go_sem, Nat.reduceEqDiff, Nat.reduceAdd, Nat.reduceMul, Nat.reduceLT, Nat.reduceLeDiff, Nat.mul_one, c183, h7, own_fsl]
    generalize hq : D P L (.loop [0, 5, 6] c183_0) _ = q
    obtain ⟨ex, s, rfl, tm, rfl, rfl, h7, hl⟩ := of_key hq (w183_0 (P := P) (L := L) (n := m) (by omega) (drawL key m) (m - 1)) ⟨m - 1, key, idL m, by
      simp only [go_sem, Nat.reduceEqDiff, Nat.reduceAdd, Nat.reduceMul, Nat.reduceLT, Nat.reduceLeDiff, Nat.mul_one, compact0, show (m : Int) - 1 = ((m - 1 : Nat) : Int) by omega, wrap64 (n := ((m - 1 : Nat) : Int)) (by omega) (by omega)], by omega, idL_len m, by omega, rfl, rfl⟩
    simp only [go_sem, Nat.reduceEqDiff, Nat.reduceAdd, Nat.reduceMul, Nat.reduceLT, Nat.reduceLeDiff, Nat.mul_one, compact0, h7]
    refine ⟨_, result_own (hget_hit _ _ _) (by simp [hl]) (by decide), ?_⟩
    have := isI_vsl false (drawL key m)
    rwa [hl] at this

theorem w182e (h : Has P L 182 c182) {e : Int} (he : e ≠ 0) : Ans P L 182 [.nils, I64 e, I64 e, .nils] (.bool true) := by
  unfold Ans; rw [call_eq h]
  simp only [go_sem, Nat.reduceEqDiff, Nat.reduceAdd, Nat.reduceMul, Nat.reduceLT, Nat.reduceLeDiff, Nat.mul_one, c182, he]

theorem w182s (h : Has P L 182 c182) (h59 : Has P L 59 c59) {v w : AV} {l : List Int} (hv : IsI v l) (hw : IsI w l) (hl : l.length ≤ 1000000) : Ans P L 182 [v, I64 0, I64 0, w] (.bool true) := by
  have e := w59 h59 hv hw hl rfl
  unfold Ans at e ⊢; rw [call_eq h]
  simp only [go_sem, Nat.reduceEqDiff, Nat.reduceAdd, Nat.reduceMul, Nat.reduceLT, Nat.reduceLeDiff, Nat.mul_one, c182, hv.len, hv.pu, hv.frz, hv.shut, hv.shut1, hv.res, hv.one, hv.cells, hw.len, hw.pu, hw.frz, hw.shut, hw.shut1, hw.res, hw.one, hw.cells, e]

theorem isI_nil {v : AV} (h : IsI v []) : v = .nils ∨ ∃ e, v = .vsl e 0 [] := by
  rcases h with ⟨h, _⟩ | ⟨e, h⟩
  · exact .inl h
  · exact .inr ⟨e, h⟩

structure Dp (P : Prog) (L : Lib) : Prop where
  h177 : Has P L 177 c177
  h178 : Has P L 178 c178
  h180 : Has P L 180 c180
  h181 : Has P L 181 c181
  h182 : Has P L 182 c182
  h183 : Has P L 183 c183
  h184 : Has P L 184 c184
  h206 : Has P L 206 c206
  h207 : Has P L 207 c207
  h124 : Has P L 124 c124
  h125 : Has P L 125 c125
  h59 : Has P L 59 c59

theorem drawE_ok {key n : Int} (h : drawE key n = 0) : (1 ≤ key ∧ key ≤ 2147483646) ∧ (0 ≤ n ∧ n ≤ 256) := by
  unfold drawE at h
  split at h
  · omega
  · split at h <;> omega

theorem drawL_len (key : Int) (n : Nat) : (drawL key n).length = n := (drawL_ord key n).len

/-- **Drawings are what the reference draws, or the error.** -/
theorem law_draws (h : Dp P L) (hA : callPure P L (D P L) 179 [] = some (.bool true)) (key n : Int) : Ans P L 177 [I64 key, I64 n] (.bool true) := by
  obtain ⟨r, e1, hr⟩ := w180 h.h180 h.h206 h.h124 h.h125 key n
  have e2 := w181 h.h181 key n
  by_cases hz : drawE key n = 0
  · obtain ⟨hk, hn⟩ := drawE_ok hz
    obtain ⟨m, rfl⟩ : ∃ m : Nat, n = m := ⟨n.toNat, by omega⟩
    obtain ⟨q, e3, hq⟩ := w183 h.h183 h.h207 hk (m := m) (by omega)
    rw [if_pos hz] at hr
    have hr : IsI (shut1 r) (drawL key m) := hr
    have e4 := w182s h.h182 h.h59 hr hq (by rw [drawL_len]; omega)
    unfold Ans at e1 e2 e3 e4 ⊢
    rw [call_eq h.h177]
    rw [hz] at e1 e2
    simp only [go_sem, Nat.reduceEqDiff, Nat.reduceAdd, Nat.reduceMul, Nat.reduceLT, Nat.reduceLeDiff, Nat.mul_one, c177, hA, e1, e2, e3, hr.len, hr.pu, hr.frz, hr.shut, hr.shut1, hr.res, hr.one, hr.cells, hq.len, hq.pu, hq.frz, hq.shut, hq.shut1, hq.res, hq.one, hq.cells, e4]
  · rw [if_neg hz] at hr
    subst hr
    have e4 := w182e h.h182 hz
    unfold Ans at e1 e2 e4 ⊢
    rw [call_eq h.h177]
    simp only [go_sem, Nat.reduceEqDiff, Nat.reduceAdd, Nat.reduceMul, Nat.reduceLT, Nat.reduceLeDiff, Nat.mul_one, c177, hA, e1, e2, hz, e4]

theorem Ord.getE {n : Nat} {l : List Int} (h : Ord n l) {i : Nat} (hi : i < l.length) : l[i] = l.getD i 0 := by
  simp [List.getD_eq_getElem?_getD, List.getElem?_eq_getElem hi]

theorem w184_0 {v : AV} {l : List Int} {n : Nat} (hv : IsI v l) (ho : Ord n l) (hn : n ≤ 256) {i : Nat} (hi : i < n) :
    ∀ d s, (∃ j : Nat, compact [0, 3, 4] s = ⟨[(0, v), (3, I64 i), (4, I64 j)], [], 0, 0⟩ ∧ j + d = i) →
      ∃ ex s', D P L (.loop [0, 3, 4] c184_0) s = some (ex, s') ∧ ∃ tm, s' = ⟨tm, [], 0, 0⟩ ∧ ex = .exit 2 ∧ tget tm 0 = v ∧ tget tm 3 = I64 i := by
  refine loop_can (I := fun d s => ∃ j : Nat, s = ⟨[(0, v), (3, I64 i), (4, I64 j)], [], 0, 0⟩ ∧ j + d = i)
    (Q := fun ex s' => ∃ tm, s' = ⟨tm, [], 0, 0⟩ ∧ ex = .exit 2 ∧ tget tm 0 = v ∧ tget tm 3 = I64 i) ?_
  rintro d s ⟨j, rfl, hd⟩
  have hl := ho.len
  by_cases hj : j < i
  · left
    have hj1 : j < l.length := by omega
    have hi1 : i < l.length := by omega
    have hne : ¬ l[j] = l[i] := fun h => by
      rw [ho.getE, ho.getE] at h
      have := ho.inj j i (by omega) hi h
      omega
    simp only [go_sem, Nat.reduceEqDiff, Nat.reduceAdd, Nat.reduceMul, Nat.reduceLT, Nat.reduceLeDiff, Nat.mul_one, c184_0, hv.len, hv.pu, hv.frz, hv.shut, hv.shut1, hv.res, hv.one, hv.cells, show (j : Int) < i by omega, hv.ixa hj1, hv.ixa hi1, hne]
    refine ⟨_, d - 1, rfl, by omega, j + 1, ?_, by omega⟩
    rw [wrap64 (by omega) (by omega)]
    simp only [go_sem, Nat.reduceEqDiff, Nat.reduceAdd, Nat.reduceMul, Nat.reduceLT, Nat.reduceLeDiff, Nat.mul_one, compact0, refs_pure hv.pu, ren_pure _ hv.pu] <;> rfl
  · right
    have : j = i := by omega
    subst this
    simp only [go_sem, Nat.reduceEqDiff, Nat.reduceAdd, Nat.reduceMul, Nat.reduceLT, Nat.reduceLeDiff, Nat.mul_one, c184_0, hv.len, hv.pu, hv.frz, hv.shut, hv.shut1, hv.res, hv.one, hv.cells, show ¬ (j : Int) < j by omega]
    exact ⟨_, _, rfl, by simp, _, rfl, rfl, by simp only [go_sem, Nat.reduceEqDiff, Nat.reduceAdd, Nat.reduceMul, Nat.reduceLT, Nat.reduceLeDiff, Nat.mul_one], by simp only [go_sem, Nat.reduceEqDiff, Nat.reduceAdd, Nat.reduceMul, Nat.reduceLT, Nat.reduceLeDiff, Nat.mul_one]⟩

theorem w184 (h : Has P L 184 c184) {v : AV} {l : List Int} {n : Nat} (hv : IsI v l) (ho : Ord n l) (hn : n ≤ 256) : Ans P L 184 [v] (.bool true) := by
  have hl := ho.len
  have key : ∀ d s, (∃ i : Nat, compact [0, 3] s = ⟨[(0, v), (3, I64 i)], [], 0, 0⟩ ∧ i + d = n) →
      ∃ ex s', D P L (.loop [0, 3] c184_1) s = some (ex, s') ∧ ∃ tm, s' = ⟨tm, [], 0, 0⟩ ∧ ex = .exit 0 := by
    refine loop_can (I := fun d s => ∃ i : Nat, s = ⟨[(0, v), (3, I64 i)], [], 0, 0⟩ ∧ i + d = n)
      (Q := fun ex s' => ∃ tm, s' = ⟨tm, [], 0, 0⟩ ∧ ex = .exit 0) ?_
    rintro d s ⟨i, rfl, hd⟩
    by_cases hi : i < n
    · left
      have hi1 : i < l.length := by omega
      have hr := ho.rng i hi
      rw [← ho.getE hi1] at hr
      simp only [go_sem, Nat.reduceEqDiff, Nat.reduceAdd, Nat.reduceMul, Nat.reduceLT, Nat.reduceLeDiff, Nat.mul_one, c184_1, hv.len, hv.pu, hv.frz, hv.shut, hv.shut1, hv.res, hv.one, hv.cells, show (i : Int) < l.length by omega, hv.ixa hi1, show ¬ l[i] < 0 by omega, show ¬ (l.length : Int) ≤ l[i] by omega]
      generalize hq : D P L (.loop [0, 3, 4] c184_0) _ = q
      obtain ⟨ex, s, rfl, tm, rfl, rfl, h0, h3⟩ := of_key hq (w184_0 (P := P) (L := L) hv ho hn hi i) ⟨0, by simp only [go_sem, Nat.reduceEqDiff, Nat.reduceAdd, Nat.reduceMul, Nat.reduceLT, Nat.reduceLeDiff, Nat.mul_one, compact0, refs_pure hv.pu, ren_pure _ hv.pu] <;> rfl, by omega⟩
      simp only [go_sem, Nat.reduceEqDiff, Nat.reduceAdd, Nat.reduceMul, Nat.reduceLT, Nat.reduceLeDiff, Nat.mul_one, compact0, h0, h3, refs_pure hv.pu, ren_pure _ hv.pu]
      refine ⟨_, d - 1, rfl, by omega, i + 1, ?_, by omega⟩
      rw [wrap64 (by omega) (by omega)]
      simp only [go_sem, Nat.reduceEqDiff, Nat.reduceAdd, Nat.reduceMul, Nat.reduceLT, Nat.reduceLeDiff, Nat.mul_one, compact0, refs_pure hv.pu, ren_pure _ hv.pu] <;> rfl
    · right
      have : i = n := by omega
      subst this
      simp only [go_sem, Nat.reduceEqDiff, Nat.reduceAdd, Nat.reduceMul, Nat.reduceLT, Nat.reduceLeDiff, Nat.mul_one, c184_1, hv.len, hv.pu, hv.frz, hv.shut, hv.shut1, hv.res, hv.one, hv.cells, show ¬ (i : Int) < l.length by omega]
      exact ⟨_, _, rfl, by simp, _, rfl, rfl⟩
  unfold Ans
  rw [call_eq h]
  simp only [go_sem, Nat.reduceEqDiff, Nat.reduceAdd, Nat.reduceMul, Nat.reduceLT, Nat.reduceLeDiff, Nat.mul_one, c184]
  generalize hq : D P L (.loop [0, 3] c184_1) _ = q
  obtain ⟨ex, s, rfl, tm, rfl, rfl⟩ := of_key hq (key n) ⟨0, by simp only [go_sem, Nat.reduceEqDiff, Nat.reduceAdd, Nat.reduceMul, Nat.reduceLT, Nat.reduceLeDiff, Nat.mul_one, compact0, refs_pure hv.pu, ren_pure _ hv.pu] <;> rfl, by omega⟩
  simp only [go_sem, Nat.reduceEqDiff, Nat.reduceAdd, Nat.reduceMul, Nat.reduceLT, Nat.reduceLeDiff, Nat.mul_one, compact0]

/-- **A permutation contains each element once, and its last element is the first step's.** -/
theorem law_deals (h : Dp P L) (hA : callPure P L (D P L) 179 [] = some (.bool true)) (key n : Int) : Ans P L 178 [I64 key, I64 n] (.bool true) := by
  obtain ⟨r, e1, hr⟩ := w180 h.h180 h.h206 h.h124 h.h125 key n
  have e2 := w181 h.h181 key n
  by_cases h40 : 40 < n
  · unfold Ans
    rw [call_eq h.h178]
    simp only [go_sem, Nat.reduceEqDiff, Nat.reduceAdd, Nat.reduceMul, Nat.reduceLT, Nat.reduceLeDiff, Nat.mul_one, c178, hA, h40]
  · by_cases hz : drawE key n = 0
    · obtain ⟨hk, hn⟩ := drawE_ok hz
      obtain ⟨m, rfl⟩ : ∃ m : Nat, n = m := ⟨n.toNat, by omega⟩
      rw [if_pos hz] at hr
      have hr : IsI (shut1 r) (drawL key m) := hr
      have ho := drawL_ord key m
      have e4 := w184 h.h184 hr ho (by omega)
      have hl := ho.len
      unfold Ans at e1 e2 e4 ⊢
      rw [call_eq h.h178]
      rw [hz] at e1 e2
      by_cases h2 : (m : Int) < 2
      · simp only [go_sem, Nat.reduceEqDiff, Nat.reduceAdd, Nat.reduceMul, Nat.reduceLT, Nat.reduceLeDiff, Nat.mul_one, c178, hA, h40, e1, e2, hr.len, hr.pu, hr.frz, hr.shut, hr.shut1, hr.res, hr.one, hr.cells, hl, e4, h2]
      · obtain ⟨p, rfl⟩ : ∃ p, m = p + 2 := ⟨m - 2, by omega⟩
        have hlast := drawL_last key p
        have hp : p + 1 < (drawL key (p + 2)).length := by omega
        have hx := nextX_bound key
        have e5 : (39373 * key).tmod 2147483647 = nextX key := Int.tmod_eq_emod_of_nonneg (by omega)
        have e6 : (nextX key).tmod ((p + 2 : Nat) : Int) = (drawL key (p + 2))[p + 1] := by
          rw [ho.getE, hlast, Int.tmod_eq_emod_of_nonneg (by omega)]
          rfl
        simp only [go_sem, Nat.reduceEqDiff, Nat.reduceAdd, Nat.reduceMul, Nat.reduceLT, Nat.reduceLeDiff, Nat.mul_one, c178, hA, h40, e1, e2, hr.len, hr.pu, hr.frz, hr.shut, hr.shut1, hr.res, hr.one, hr.cells, hl, e4, h2, show ((p + 2 : Nat) : Int) - 1 = ((p + 1 : Nat) : Int) by omega, wrap64 (n := ((p + 1 : Nat) : Int)) (by omega) (by omega), hr.ixa hp, wrap64 (n := 39373 * key) (by omega) (by omega), bin_rem _ _ _ (show (2147483647 : Int) ≠ 0 by decide), e5, bin_rem _ _ _ (show ((p + 2 : Nat) : Int) ≠ 0 by omega), e6]
    · unfold Ans at e2 ⊢
      rw [call_eq h.h178]
      simp only [go_sem, Nat.reduceEqDiff, Nat.reduceAdd, Nat.reduceMul, Nat.reduceLT, Nat.reduceLeDiff, Nat.mul_one, c178, hA, h40, e2, hz]
end
end Nd
end VE
end
