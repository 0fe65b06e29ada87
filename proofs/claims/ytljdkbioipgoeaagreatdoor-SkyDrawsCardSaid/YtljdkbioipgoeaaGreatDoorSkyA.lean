import Derived.Test.YtljdkbioipgoeaaGreatDoorGo
import Derived.Test.YtljdkbioipgoeaaGreatDoorLaws
import Derived.Test.YtljdkbioipgoeaaGreatDoorCode
set_option linter.all false
section
/- Chapter 7, integers: checks. -/
set_option maxRecDepth 100000
namespace VE
open Go (IntKind)
section
variable {P : Prog} {L : Lib}

/-- A call on values answers. -/
abbrev Ans (P : Prog) (L : Lib) (f : Nat) (vals : List AV) (r : AV) : Prop := callPure P L (D P L) f vals = some r

theorem s30 (h : Has P L 30 c30) (n lo hi : Int) : Ans P L 30 [I64 n, I64 lo, I64 hi] (I64 (if n < lo ∨ hi < n then 3 else 0)) := by
  unfold Ans; rw [call_eq h]
  by_cases h1 : n < lo
  · simp only [go_sem, Nat.reduceEqDiff, Nat.reduceAdd, Nat.reduceMul, Nat.reduceLT, Nat.reduceLeDiff, Nat.mul_one, c30, h1, true_or, if_true]
  · by_cases h2 : hi < n
    · simp only [go_sem, Nat.reduceEqDiff, Nat.reduceAdd, Nat.reduceMul, Nat.reduceLT, Nat.reduceLeDiff, Nat.mul_one, c30, h1, h2, or_true, if_true]
    · simp only [go_sem, Nat.reduceEqDiff, Nat.reduceAdd, Nat.reduceMul, Nat.reduceLT, Nat.reduceLeDiff, Nat.mul_one, c30, h1, h2, or_self, if_false]

theorem s31 (h : Has P L 31 c31) (b : Bool) (n : Int) : Ans P L 31 [.bool b, I64 n] (I64 (if b = true then n else 0)) := by
  unfold Ans; rw [call_eq h]
  cases b with
  | true => simp only [go_sem, Nat.reduceEqDiff, Nat.reduceAdd, Nat.reduceMul, Nat.reduceLT, Nat.reduceLeDiff, Nat.mul_one, c31, if_true]
  | false => simp only [go_sem, Nat.reduceEqDiff, Nat.reduceAdd, Nat.reduceMul, Nat.reduceLT, Nat.reduceLeDiff, Nat.mul_one, c31]; rfl

theorem s13 (h : Has P L 13 c13) (b : Bool) (n : Int) : Ans P L 13 [.bool b, I64 n] (I64 (if b = true then n else 0)) := by
  unfold Ans; rw [call_eq h]
  cases b with
  | true => simp only [go_sem, Nat.reduceEqDiff, Nat.reduceAdd, Nat.reduceMul, Nat.reduceLT, Nat.reduceLeDiff, Nat.mul_one, c13, if_true]
  | false => simp only [go_sem, Nat.reduceEqDiff, Nat.reduceAdd, Nat.reduceMul, Nat.reduceLT, Nat.reduceLeDiff, Nat.mul_one, c13]; rfl

theorem s34 (h : Has P L 34 c34) (h31 : Has P L 31 c31) (n lo hi : Int) : Ans P L 34 [I64 n, I64 lo, I64 hi] (I64 (if n < lo ∨ hi < n then 3 else 0)) := by
  unfold Ans; rw [call_eq h]
  by_cases h1 : n < lo
  · simp only [go_sem, Nat.reduceEqDiff, Nat.reduceAdd, Nat.reduceMul, Nat.reduceLT, Nat.reduceLeDiff, Nat.mul_one, c34, h1, true_or, if_true, s31 h31]
  · by_cases h2 : hi < n
    · simp only [go_sem, Nat.reduceEqDiff, Nat.reduceAdd, Nat.reduceMul, Nat.reduceLT, Nat.reduceLeDiff, Nat.mul_one, c34, h1, h2, or_true, if_true, s31 h31]
    · simp only [go_sem, Nat.reduceEqDiff, Nat.reduceAdd, Nat.reduceMul, Nat.reduceLT, Nat.reduceLeDiff, Nat.mul_one, c34, h1, h2, or_self, if_false, s31 h31]; rfl

theorem s36 (h : Has P L 36 c36) (h34 : Has P L 34 c34) (h31 : Has P L 31 c31) (n : Int) : Ans P L 36 [I64 n] (I64 (if n < 0 ∨ 1000 < n then 3 else 0)) := by
  unfold Ans; rw [call_eq h]
  simp only [go_sem, Nat.reduceEqDiff, Nat.reduceAdd, Nat.reduceMul, Nat.reduceLT, Nat.reduceLeDiff, Nat.mul_one, c36, s34 h34 h31]

theorem s38 (h : Has P L 38 c38) (a b : Int) : Ans P L 38 [I64 a, I64 b] (I64 (IntKind.wrap .i64 (a + b))) := by
  unfold Ans; rw [call_eq h]
  simp only [go_sem, Nat.reduceEqDiff, Nat.reduceAdd, Nat.reduceMul, Nat.reduceLT, Nat.reduceLeDiff, Nat.mul_one, c38]

theorem s33 (h : Has P L 33 c33) {v : AV} {l : List Int} (hv : IsI v l) (hl : l.length ≤ 1000000) : Ans P L 33 [v] (I64 (firstI l)) := by
  unfold Ans; rw [call_eq h]
  simp only [go_sem, Nat.reduceEqDiff, Nat.reduceAdd, Nat.reduceMul, Nat.reduceLT, Nat.reduceLeDiff, Nat.mul_one, c33, hv.len, hv.pu, hv.frz, hv.shut, hv.shut1, hv.res, hv.one, hv.cells]
  have key := loop_ind (P := P) (L := L) (live := [5, 6, 7]) (a := c33_0)
    (I := fun k s => ∃ tm ct i, s = ⟨tm, [], ct, 0⟩ ∧ tget tm 5 = v ∧ tget tm 6 = I64 l.length ∧ tget tm 7 = I64 (i : Nat) ∧ i + k = l.length ∧ firstI (l.drop i) = firstI l)
    (Q := fun ex s => ∃ tm, s = ⟨tm, [], 0, 0⟩ ∧ ((ex = .ret ∧ tget tm 2 = I64 (firstI l)) ∨ (ex = .exit 0 ∧ firstI l = 0))) ?_ l.length
  · generalize hq : D P L (.loop [5, 6, 7] c33_0) _ = q
    obtain ⟨ex, s, rfl, tm, rfl, h2⟩ := of_key hq key ⟨_, _, 0, rfl, rfl, rfl, rfl, by omega, rfl⟩
    rcases h2 with ⟨rfl, h2⟩ | ⟨rfl, h2⟩
    · simp only [go_sem, Nat.reduceEqDiff, Nat.reduceAdd, Nat.reduceMul, Nat.reduceLT, Nat.reduceLeDiff, Nat.mul_one, h2]
    · rw [h2]; simp only [go_sem, Nat.reduceEqDiff, Nat.reduceAdd, Nat.reduceMul, Nat.reduceLT, Nat.reduceLeDiff, Nat.mul_one]
  · rintro k s ⟨tm, ct, i, rfl, h5, h6, h7, hk, hf⟩
    rw [compact_pure (by simp only [go_sem, Nat.reduceEqDiff, Nat.reduceAdd, Nat.reduceMul, Nat.reduceLT, Nat.reduceLeDiff, Nat.mul_one, h5, h6, h7, hv.len, hv.pu, hv.frz, hv.shut, hv.shut1, hv.res, hv.one, hv.cells])]
    simp only [go_sem, Nat.reduceEqDiff, Nat.reduceAdd, Nat.reduceMul, Nat.reduceLT, Nat.reduceLeDiff, Nat.mul_one, h5, h6, h7, c33_0]
    by_cases hi : i < l.length
    · have hi' : (i : Int) < l.length := by omega
      rw [firstI_drop hi] at hf
      by_cases hz : l[i] = 0
      · left
        simp only [go_sem, Nat.reduceEqDiff, Nat.reduceAdd, Nat.reduceMul, Nat.reduceLT, Nat.reduceLeDiff, Nat.mul_one, hi', hv.ixa hi, hz]
        refine ⟨_, k - 1, rfl, by omega, _, _, i + 1, rfl, ?_⟩
        rw [wrap64 (by omega) (by omega)]
        rw [if_pos hz] at hf
        simp only [go_sem, Nat.reduceEqDiff, Nat.reduceAdd, Nat.reduceMul, Nat.reduceLT, Nat.reduceLeDiff, Nat.mul_one]
        exact ⟨trivial, trivial, rfl, by omega, hf⟩
      · right
        simp only [go_sem, Nat.reduceEqDiff, Nat.reduceAdd, Nat.reduceMul, Nat.reduceLT, Nat.reduceLeDiff, Nat.mul_one, hi', hv.ixa hi, hz]
        rw [if_neg hz] at hf
        refine ⟨_, _, rfl, by simp, _, rfl, .inl ⟨rfl, ?_⟩⟩
        simp only [go_sem, Nat.reduceEqDiff, Nat.reduceAdd, Nat.reduceMul, Nat.reduceLT, Nat.reduceLeDiff, Nat.mul_one, hf]
    · right
      have hi' : ¬ (i : Int) < l.length := by omega
      simp only [go_sem, Nat.reduceEqDiff, Nat.reduceAdd, Nat.reduceMul, Nat.reduceLT, Nat.reduceLeDiff, Nat.mul_one, hi']
      refine ⟨_, _, rfl, by simp, _, rfl, .inr ⟨rfl, ?_⟩⟩
      rw [← hf, List.drop_eq_nil_of_le (by omega)]
      rfl

theorem s42 (h : Has P L 42 c42) {v : AV} {l : List Int} (hv : IsI v l) (hl : l.length ≤ 1000000) : Ans P L 42 [v] (I64 (firstI l)) := by
  unfold Ans; rw [call_eq h]
  simp only [go_sem, Nat.reduceEqDiff, Nat.reduceAdd, Nat.reduceMul, Nat.reduceLT, Nat.reduceLeDiff, Nat.mul_one, c42, hv.len, hv.pu, hv.frz, hv.shut, hv.shut1, hv.res, hv.one, hv.cells]
  have key := loop_ind (P := P) (L := L) (live := [0, 3]) (a := c42_0)
    (I := fun k s => ∃ tm ct i, s = ⟨tm, [], ct, 0⟩ ∧ tget tm 0 = v ∧ tget tm 3 = I64 (i : Nat) ∧ i + k = l.length ∧ firstI (l.drop i) = firstI l)
    (Q := fun ex s => ∃ tm, s = ⟨tm, [], 0, 0⟩ ∧ ((ex = .ret ∧ tget tm 2 = I64 (firstI l)) ∨ (ex = .exit 0 ∧ firstI l = 0))) ?_ l.length
  · generalize hq : D P L (.loop [0, 3] c42_0) _ = q
    obtain ⟨ex, s, rfl, tm, rfl, h2⟩ := of_key hq key ⟨_, _, 0, rfl, rfl, rfl, by omega, rfl⟩
    rcases h2 with ⟨rfl, h2⟩ | ⟨rfl, h2⟩
    · simp only [go_sem, Nat.reduceEqDiff, Nat.reduceAdd, Nat.reduceMul, Nat.reduceLT, Nat.reduceLeDiff, Nat.mul_one, h2]
    · rw [h2]; simp only [go_sem, Nat.reduceEqDiff, Nat.reduceAdd, Nat.reduceMul, Nat.reduceLT, Nat.reduceLeDiff, Nat.mul_one]
  · rintro k s ⟨tm, ct, i, rfl, h0, h3, hk, hf⟩
    rw [compact_pure (by simp only [go_sem, Nat.reduceEqDiff, Nat.reduceAdd, Nat.reduceMul, Nat.reduceLT, Nat.reduceLeDiff, Nat.mul_one, h0, h3, hv.len, hv.pu, hv.frz, hv.shut, hv.shut1, hv.res, hv.one, hv.cells])]
    simp only [go_sem, Nat.reduceEqDiff, Nat.reduceAdd, Nat.reduceMul, Nat.reduceLT, Nat.reduceLeDiff, Nat.mul_one, h0, h3, c42_0, hv.len, hv.pu, hv.frz, hv.shut, hv.shut1, hv.res, hv.one, hv.cells]
    by_cases hi : i < l.length
    · have hi' : (i : Int) < l.length := by omega
      rw [firstI_drop hi] at hf
      by_cases hz : l[i] = 0
      · left
        simp only [go_sem, Nat.reduceEqDiff, Nat.reduceAdd, Nat.reduceMul, Nat.reduceLT, Nat.reduceLeDiff, Nat.mul_one, hi', hv.ixa hi, hz]
        refine ⟨_, k - 1, rfl, by omega, _, _, i + 1, rfl, ?_⟩
        rw [wrap64 (by omega) (by omega)]
        rw [if_pos hz] at hf
        simp only [go_sem, Nat.reduceEqDiff, Nat.reduceAdd, Nat.reduceMul, Nat.reduceLT, Nat.reduceLeDiff, Nat.mul_one]
        exact ⟨trivial, rfl, by omega, hf⟩
      · right
        simp only [go_sem, Nat.reduceEqDiff, Nat.reduceAdd, Nat.reduceMul, Nat.reduceLT, Nat.reduceLeDiff, Nat.mul_one, hi', hv.ixa hi, hz]
        rw [if_neg hz] at hf
        refine ⟨_, _, rfl, by simp, _, rfl, .inl ⟨rfl, ?_⟩⟩
        simp only [go_sem, Nat.reduceEqDiff, Nat.reduceAdd, Nat.reduceMul, Nat.reduceLT, Nat.reduceLeDiff, Nat.mul_one, hf]
    · right
      have hi' : ¬ (i : Int) < l.length := by omega
      simp only [go_sem, Nat.reduceEqDiff, Nat.reduceAdd, Nat.reduceMul, Nat.reduceLT, Nat.reduceLeDiff, Nat.mul_one, hi']
      refine ⟨_, _, rfl, by simp, _, rfl, .inr ⟨rfl, ?_⟩⟩
      rw [← hf, List.drop_eq_nil_of_le (by omega)]
      rfl

theorem s11 (h : Has P L 11 c11) (h42 : Has P L 42 c42) {v : AV} {l : List Int} (hv : IsI v l) (hl : l.length ≤ 1000000) : Ans P L 11 [v] (I64 (firstI l)) := by
  unfold Ans; rw [call_eq h]
  simp only [go_sem, Nat.reduceEqDiff, Nat.reduceAdd, Nat.reduceMul, Nat.reduceLT, Nat.reduceLeDiff, Nat.mul_one, c11, hv.len, hv.pu, hv.frz, hv.shut, hv.shut1, hv.res, hv.one, hv.cells, s42 h42 hv hl]

theorem s134 (h : Has P L 134 c134) {n m : Int} (hm : 0 < m) (hm' : m ≤ 1000000) : Ans P L 134 [I64 n, I64 m] (I64 (n % m)) := by
  unfold Ans; rw [call_eq h]
  have h1 : m ≠ 0 := by omega
  have h2 : n.tmod m < m := Int.tmod_lt_of_pos n hm
  have h3 : -m < n.tmod m := by
    have h := Int.lt_tmod_of_pos n hm
    omega
  simp only [go_sem, Nat.reduceEqDiff, Nat.reduceAdd, Nat.reduceMul, Nat.reduceLT, Nat.reduceLeDiff, Nat.mul_one, c134, bin_rem _ _ _ h1, wrap64 (n := n.tmod m + m) (by omega) (by omega), tmod_up hm]
end
end VE
end
section
/- Chapter 7, integers: checks of screens and kernels. -/
set_option maxRecDepth 100000
namespace VE
open Go (IntKind)
section
variable {P : Prog} {L : Lib}

theorem any_drop {α : Type} {p : α → Bool} {l : List α} {i : Nat} (h : i < l.length) : (l.drop i).any p = (p l[i] || (l.drop (i + 1)).any p) := by
  rw [List.drop_eq_getElem_cons h, List.any_cons]

theorem s132 (h : Has P L 132 c132) {v : AV} {l : List Int} (hv : IsI v l) (hl : l.length ≤ 1000000) {g : Nat} {cap : List AV} {p : Int → Bool} (hc : pureL cap = true)
    (hz : ∀ x hp, freezeL deep hp (I64 x :: cap) = some (I64 x :: cap, hp)) (hg : ∀ x, Ans P L g (I64 x :: cap) (.bool (p x))) : ∃ n : Int, Ans P L 132 [v, .fn (.f g) [] cap] (I64 n) ∧ decide (0 ≤ n) = l.any p := by
  have hpf : pureAV (.fn (.f g) [] cap) = true := by simp [pureAV, pureL, hc]
  simp only [Ans, deep] at hg hz
  have key := loop_ind (P := P) (L := L) (live := [0, 1, 7, 8]) (a := c132_0)
    (I := fun k s => ∃ tm ct i, s = ⟨tm, [], ct, 0⟩ ∧ tget tm 0 = v ∧ tget tm 1 = .fn (.f g) [] cap ∧ tget tm 7 = I64 l.length ∧ tget tm 8 = I64 (i : Nat) ∧ i + k = l.length ∧ (l.drop i).any p = l.any p)
    (Q := fun ex s => ∃ tm, s = ⟨tm, [], 0, 0⟩ ∧ ((∃ n : Int, ex = .ret ∧ tget tm 4 = I64 n ∧ 0 ≤ n ∧ l.any p = true) ∨ (ex = .exit 0 ∧ l.any p = false))) ?_ l.length
  · simp only [Ans]
    rw [call_eq h]
    simp only [go_sem, Nat.reduceEqDiff, Nat.reduceAdd, Nat.reduceMul, Nat.reduceLT, Nat.reduceLeDiff, Nat.mul_one, c132, hv.len, hv.pu, hv.frz, hv.shut, hv.shut1, hv.res, hv.one, hv.cells]
    generalize hq : D P L (.loop [0, 1, 7, 8] c132_0) _ = q
    obtain ⟨ex, s, rfl, tm, rfl, h2⟩ := of_key hq key ⟨_, _, 0, rfl, rfl, rfl, rfl, rfl, by omega, rfl⟩
    rcases h2 with ⟨n, rfl, h2, h3, h4⟩ | ⟨rfl, h2⟩
    · exact ⟨n, by simp only [go_sem, Nat.reduceEqDiff, Nat.reduceAdd, Nat.reduceMul, Nat.reduceLT, Nat.reduceLeDiff, Nat.mul_one, h2], by rw [h4]; simpa using h3⟩
    · exact ⟨-1, by simp only [go_sem, Nat.reduceEqDiff, Nat.reduceAdd, Nat.reduceMul, Nat.reduceLT, Nat.reduceLeDiff, Nat.mul_one], by rw [h2]; decide⟩
  · rintro k s ⟨tm, ct, i, rfl, h0, h1, h7, h8, hk, hf⟩
    rw [compact_pure (by simp only [go_sem, Nat.reduceEqDiff, Nat.reduceAdd, Nat.reduceMul, Nat.reduceLT, Nat.reduceLeDiff, Nat.mul_one, h0, h1, h7, h8, hv.len, hv.pu, hv.frz, hv.shut, hv.shut1, hv.res, hv.one, hv.cells, hpf])]
    simp only [go_sem, Nat.reduceEqDiff, Nat.reduceAdd, Nat.reduceMul, Nat.reduceLT, Nat.reduceLeDiff, Nat.mul_one, h0, h1, h7, h8, c132_0, hv.len, hv.pu, hv.frz, hv.shut, hv.shut1, hv.res, hv.one, hv.cells]
    by_cases hi : i < l.length
    · have hi' : (i : Int) < l.length := by omega
      rw [any_drop hi] at hf
      cases hz' : p l[i] with
      | false =>
        left
        simp only [go_sem, Nat.reduceEqDiff, Nat.reduceAdd, Nat.reduceMul, Nat.reduceLT, Nat.reduceLeDiff, Nat.mul_one, hi', hv.ixa hi, hz, hg, hz']
        refine ⟨_, k - 1, rfl, by omega, _, _, i + 1, rfl, ?_⟩
        rw [wrap64 (by omega) (by omega)]
        rw [hz', Bool.false_or] at hf
        simp only [go_sem, Nat.reduceEqDiff, Nat.reduceAdd, Nat.reduceMul, Nat.reduceLT, Nat.reduceLeDiff, Nat.mul_one]
        exact ⟨trivial, trivial, trivial, rfl, by omega, hf⟩
      | true =>
        right
        simp only [go_sem, Nat.reduceEqDiff, Nat.reduceAdd, Nat.reduceMul, Nat.reduceLT, Nat.reduceLeDiff, Nat.mul_one, hi', hv.ixa hi, hz, hg, hz']
        refine ⟨_, _, rfl, by simp, _, rfl, .inl ⟨i, rfl, ?_, by omega, ?_⟩⟩
        · simp only [go_sem, Nat.reduceEqDiff, Nat.reduceAdd, Nat.reduceMul, Nat.reduceLT, Nat.reduceLeDiff, Nat.mul_one]
        · rw [← hf, hz', Bool.true_or]
    · right
      have hi' : ¬ (i : Int) < l.length := by omega
      simp only [go_sem, Nat.reduceEqDiff, Nat.reduceAdd, Nat.reduceMul, Nat.reduceLT, Nat.reduceLeDiff, Nat.mul_one, hi']
      refine ⟨_, _, rfl, by simp, _, rfl, .inr ⟨rfl, ?_⟩⟩
      rw [← hf, List.drop_eq_nil_of_le (by omega)]
      rfl

theorem s95 (h : Has P L 95 c95) (h132 : Has P L 132 c132) {v : AV} {l : List Int} (hv : IsI v l) (hl : l.length ≤ 1000000) {g : Nat} {cap : List AV} {p : Int → Bool} (hc : pureL cap = true)
    (hz : ∀ x hp, freezeL deep hp (I64 x :: cap) = some (I64 x :: cap, hp)) (hg : ∀ x, Ans P L g (I64 x :: cap) (.bool (p x)))
    (hz2 : ∀ n hp, freeze (n + 500) hp (.fn (.f g) [] cap) = some (.fn (.f g) [] cap, hp)) : Ans P L 95 [v, .fn (.f g) [] cap] (.bool (l.any p)) := by
  obtain ⟨n, h1, h2⟩ := s132 h132 hv hl hc hz hg
  unfold Ans at h1 ⊢
  rw [call_eq h]
  have hz2' : ∀ hp, freeze 998 hp (.fn (.f g) [] cap) = some (.fn (.f g) [] cap, hp) := fun hp => hz2 498 hp
  simp only [go_sem, Nat.reduceEqDiff, Nat.reduceAdd, Nat.reduceMul, Nat.reduceLT, Nat.reduceLeDiff, Nat.mul_one, c95, hv.len, hv.pu, hv.frz, hv.shut, hv.shut1, hv.res, hv.one, hv.cells, hz2', h1, h2]

theorem s94 (h : Has P L 94 c94) {m : Int} (hm : 0 ≤ m) (hm' : m ≤ 1000000) (x : Int) : Ans P L 94 [I64 x, .vptr [I64 m]] (.bool (decide (x < -m ∨ m < x))) := by
  unfold Ans; rw [call_eq h]
  by_cases h1 : x < -m
  · simp only [go_sem, Nat.reduceEqDiff, Nat.reduceAdd, Nat.reduceMul, Nat.reduceLT, Nat.reduceLeDiff, Nat.mul_one, c94, ld_vptr1, wrap64 (n := 0 - m) (by omega) (by omega), show x < 0 - m by omega, h1, true_or]
  · by_cases h2 : m < x
    · simp only [go_sem, Nat.reduceEqDiff, Nat.reduceAdd, Nat.reduceMul, Nat.reduceLT, Nat.reduceLeDiff, Nat.mul_one, c94, ld_vptr1, wrap64 (n := 0 - m) (by omega) (by omega), show ¬ x < 0 - m by omega, h1, h2, or_true]
    · simp only [go_sem, Nat.reduceEqDiff, Nat.reduceAdd, Nat.reduceMul, Nat.reduceLT, Nat.reduceLeDiff, Nat.mul_one, c94, ld_vptr1, wrap64 (n := 0 - m) (by omega) (by omega), show ¬ x < 0 - m by omega, h1, h2, or_self]

theorem outI_any (m : Int) (l : List Int) : l.any (fun x => decide (x < -m ∨ m < x)) = outI (-m) m l := by
  induction l with
  | nil => rfl
  | cons a r ih =>
    simp only [List.any_cons, outI, ih]
    by_cases h : a < -m ∨ m < a
    · simp [h]
    · simp [h]

structure Sq (P : Prog) (L : Lib) : Prop where
  h32 : Has P L 32 c32
  h31 : Has P L 31 c31
  h33 : Has P L 33 c33
  h94 : Has P L 94 c94
  h95 : Has P L 95 c95
  h132 : Has P L 132 c132
  h4 : Has P L 4 c4
  h9 : Has P L 9 c9

theorem s32 (h : Sq P L) {v : AV} {s : List (List Int)} (hv : IsS v s) (hl : s.length ≤ 1000000) (hr : ∀ i (hi : i < s.length), s[i].length ≤ 1000000) {m : Int} (hm : 0 ≤ m) (hm' : m ≤ 1000000) :
    Ans P L 32 [v, I64 m] (I64 (sqChk s.length (-m) m s)) := by
  have key := loop_can (P := P) (L := L) (live := [0, 3, 9, 10, 11]) (a := c32_0)
    (I := fun k st => ∃ (i : Nat) (rw : Bool), st = ⟨[(0, v), (3, .ptr 0 0), (9, v), (10, I64 s.length), (11, I64 i)], [(0, .cells rw true true 1 [I64 m])], 1, 0⟩ ∧ i + k = s.length ∧ sqChk s.length (-m) m (s.drop i) = sqChk s.length (-m) m s)
    (Q := fun ex st => ∃ tm hp ct, st = ⟨tm, hp, ct, 0⟩ ∧ ((ex = .ret ∧ tget tm 4 = I64 (sqChk s.length (-m) m s)) ∨ (ex = .exit 0 ∧ sqChk s.length (-m) m s = 0))) ?_
  · unfold Ans; rw [call_eq h.h32]
    simp only [go_sem, Nat.reduceEqDiff, Nat.reduceAdd, Nat.reduceMul, Nat.reduceLT, Nat.reduceLeDiff, Nat.mul_one, c32, hv.len, hv.pu, hv.frz, hv.shut, hv.shut1, hv.res, hv.one, hv.cells]
    generalize hq : D P L (.loop [0, 3, 9, 10, 11] c32_0) _ = q
    obtain ⟨ex, st, rfl, tm, hp, ct, rfl, h2⟩ := of_key hq (key s.length) ⟨0, true, by simp only [go_sem, Nat.reduceEqDiff, Nat.reduceAdd, Nat.reduceMul, Nat.reduceLT, Nat.reduceLeDiff, Nat.mul_one, compact0, refs_pure hv.pu, ren_pure _ hv.pu] <;> rfl, by omega, rfl⟩
    rcases h2 with ⟨rfl, h2⟩ | ⟨rfl, h2⟩
    · simp only [go_sem, Nat.reduceEqDiff, Nat.reduceAdd, Nat.reduceMul, Nat.reduceLT, Nat.reduceLeDiff, Nat.mul_one, h2]
    · rw [h2]; simp only [go_sem, Nat.reduceEqDiff, Nat.reduceAdd, Nat.reduceMul, Nat.reduceLT, Nat.reduceLeDiff, Nat.mul_one, compact0]
  · rintro k st ⟨i, rw, rfl, hk, hf⟩
    simp only [go_sem, Nat.reduceEqDiff, Nat.reduceAdd, Nat.reduceMul, Nat.reduceLT, Nat.reduceLeDiff, Nat.mul_one, c32_0, hv.len, hv.pu, hv.frz, hv.shut, hv.shut1, hv.res, hv.one, hv.cells]
    by_cases hi : i < s.length
    · have hi' : (i : Int) < s.length := by omega
      rw [sqChk_drop hi] at hf
      obtain ⟨r, rest, hr1, hr2⟩ := hv.ixa hi
      have hc : Ans P L 95 [r, .fn (.f 94) [] [.vptr [I64 m]]] (.bool (outI (-m) m s[i])) := by
        rw [← outI_any]
        exact s95 h.h95 h.h132 hr1 (hr i hi) rfl (fun x hp => by simp only [go_sem, Nat.reduceEqDiff, Nat.reduceAdd, Nat.reduceMul, Nat.reduceLT, Nat.reduceLeDiff, Nat.mul_one]) (fun x => s94 h.h94 hm hm' x) (fun n hp => by simp only [go_sem, Nat.reduceEqDiff, Nat.reduceAdd, Nat.reduceMul, Nat.reduceLT, Nat.reduceLeDiff, Nat.mul_one])
      have hf2 : ∀ a b : Int, Ans P L 33 [.vsl true 2 [.int .i64 a, .int .i64 b]] (I64 (firstI [a, b])) := fun a b => s33 h.h33 (isI_vsl true [a, b]) (by simp)
      unfold Ans at hc hf2
      by_cases h1 : s[i].length = s.length
      · have h1' : (s[i].length : Int) = s.length := by omega
        simp only [h1, ne_eq, not_true_eq_false, if_false] at hf
        cases h2 : outI (-m) m s[i] with
        | false =>
          left
          simp only [h2, Bool.false_eq_true, if_false] at hf
          cases rw <;> simp only [go_sem, Nat.reduceEqDiff, Nat.reduceAdd, Nat.reduceMul, Nat.reduceLT, Nat.reduceLeDiff, Nat.mul_one, hi', hr2, hc, h1', h2, s31 h.h31, hf2, hr1.len, hr1.pu, hr1.frz, hr1.shut, hr1.shut1, hr1.res, hr1.one, hr1.cells, hv.len, hv.pu, hv.frz, hv.shut, hv.shut1, hv.res, hv.one, hv.cells, Bool.false_eq_true, if_false, firstI, if_true]
          all_goals
            refine ⟨_, k - 1, rfl, by omega, i + 1, false, ?_, by omega, hf⟩
            rw [wrap64 (by omega) (by omega)]
            simp only [go_sem, Nat.reduceEqDiff, Nat.reduceAdd, Nat.reduceMul, Nat.reduceLT, Nat.reduceLeDiff, Nat.mul_one, compact0, refs_pure hv.pu, ren_pure _ hv.pu]
            rfl
        | true =>
          right
          simp only [h2, if_true] at hf
          cases rw <;> simp only [go_sem, Nat.reduceEqDiff, Nat.reduceAdd, Nat.reduceMul, Nat.reduceLT, Nat.reduceLeDiff, Nat.mul_one, hi', hr2, hc, h1', h2, s31 h.h31, hf2, hr1.len, hr1.pu, hr1.frz, hr1.shut, hr1.shut1, hr1.res, hr1.one, hr1.cells, hv.len, hv.pu, hv.frz, hv.shut, hv.shut1, hv.res, hv.one, hv.cells, Bool.false_eq_true, if_false, firstI, if_true, Int.reduceEq]
          all_goals
            refine ⟨_, _, rfl, by simp, _, _, _, rfl, .inl ⟨rfl, ?_⟩⟩
            simp only [go_sem, Nat.reduceEqDiff, Nat.reduceAdd, Nat.reduceMul, Nat.reduceLT, Nat.reduceLeDiff, Nat.mul_one, hf]
      · right
        have h1' : ¬ (s[i].length : Int) = s.length := by omega
        simp only [h1, ne_eq, not_false_eq_true, if_true] at hf
        cases h2 : outI (-m) m s[i] <;> cases rw <;> simp only [go_sem, Nat.reduceEqDiff, Nat.reduceAdd, Nat.reduceMul, Nat.reduceLT, Nat.reduceLeDiff, Nat.mul_one, hi', hr2, hc, h1', h2, s31 h.h31, hf2, hr1.len, hr1.pu, hr1.frz, hr1.shut, hr1.shut1, hr1.res, hr1.one, hr1.cells, hv.len, hv.pu, hv.frz, hv.shut, hv.shut1, hv.res, hv.one, hv.cells, Bool.false_eq_true, if_false, firstI, if_true, Int.reduceEq]
        all_goals
          refine ⟨_, _, rfl, by simp, _, _, _, rfl, .inl ⟨rfl, ?_⟩⟩
          simp only [go_sem, Nat.reduceEqDiff, Nat.reduceAdd, Nat.reduceMul, Nat.reduceLT, Nat.reduceLeDiff, Nat.mul_one, hf]
    · right
      have hi' : ¬ (i : Int) < s.length := by omega
      simp only [go_sem, Nat.reduceEqDiff, Nat.reduceAdd, Nat.reduceMul, Nat.reduceLT, Nat.reduceLeDiff, Nat.mul_one, hi']
      refine ⟨_, _, rfl, by simp, _, _, _, rfl, .inr ⟨rfl, ?_⟩⟩
      rw [← hf, List.drop_eq_nil_of_le (by omega)]
      rfl
end
end VE
end
section
/- Chapter 7, integers: more checks, the same two screens, cells. -/
set_option maxRecDepth 100000
namespace VE
open Go (IntKind)
section
variable {P : Prog} {L : Lib}

theorem s2 (h : Has P L 2 c2) {v : AV} {s : List (List Int)} (hv : IsS v s) {n : Nat} : Ans P L 2 [v, I64 n] (.bool (shortS n s)) := by
  have key := loop_can (P := P) (L := L) (live := [0, 5]) (a := c2_0)
    (I := fun k st => ∃ i : Nat, st = ⟨[(0, v), (5, I64 i)], [], 0, 0⟩ ∧ i + k = s.length ∧ s.length ≤ 18 ∧ rowsShort (s.drop i) = rowsShort s)
    (Q := fun ex st => ∃ tm ct, st = ⟨tm, [], ct, 0⟩ ∧ ((ex = .ret ∧ tget tm 4 = .bool (rowsShort s)) ∨ (ex = .exit 0 ∧ rowsShort s = true))) ?_
  · unfold Ans; rw [call_eq h]
    unfold shortS
    by_cases h1 : n < s.length
    · by_cases h2 : s.length ≤ 16
      · simp only [go_sem, Nat.reduceEqDiff, Nat.reduceAdd, Nat.reduceMul, Nat.reduceLT, Nat.reduceLeDiff, Nat.mul_one, c2, hv.len, hv.pu, hv.frz, hv.shut, hv.shut1, hv.res, hv.one, hv.cells, show (n : Int) < s.length by omega, show (s.length : Int) ≤ 16 by omega]
        rw [if_pos (by omega)]
      · by_cases h3 : 18 < s.length
        · simp only [go_sem, Nat.reduceEqDiff, Nat.reduceAdd, Nat.reduceMul, Nat.reduceLT, Nat.reduceLeDiff, Nat.mul_one, c2, hv.len, hv.pu, hv.frz, hv.shut, hv.shut1, hv.res, hv.one, hv.cells, show (n : Int) < s.length by omega, show ¬ (s.length : Int) ≤ 16 by omega, show (18 : Int) < s.length by omega]
          rw [if_pos (by omega)]
        · simp only [go_sem, Nat.reduceEqDiff, Nat.reduceAdd, Nat.reduceMul, Nat.reduceLT, Nat.reduceLeDiff, Nat.mul_one, c2, hv.len, hv.pu, hv.frz, hv.shut, hv.shut1, hv.res, hv.one, hv.cells, show (n : Int) < s.length by omega, show ¬ (s.length : Int) ≤ 16 by omega, show ¬ (18 : Int) < s.length by omega]
          rw [if_neg (by omega)]
          generalize hq : D P L (.loop [0, 5] c2_0) _ = q
          obtain ⟨ex, st, rfl, tm, ct, rfl, h2⟩ := of_key hq (key s.length) ⟨0, by simp only [go_sem, Nat.reduceEqDiff, Nat.reduceAdd, Nat.reduceMul, Nat.reduceLT, Nat.reduceLeDiff, Nat.mul_one, compact0, refs_pure hv.pu, ren_pure _ hv.pu] <;> rfl, by omega, by omega, rfl⟩
          rcases h2 with ⟨rfl, h2⟩ | ⟨rfl, h2⟩
          · simp only [go_sem, Nat.reduceEqDiff, Nat.reduceAdd, Nat.reduceMul, Nat.reduceLT, Nat.reduceLeDiff, Nat.mul_one, h2]
          · rw [h2]; simp only [go_sem, Nat.reduceEqDiff, Nat.reduceAdd, Nat.reduceMul, Nat.reduceLT, Nat.reduceLeDiff, Nat.mul_one]
    · by_cases h3 : 18 < s.length
      · simp only [go_sem, Nat.reduceEqDiff, Nat.reduceAdd, Nat.reduceMul, Nat.reduceLT, Nat.reduceLeDiff, Nat.mul_one, c2, hv.len, hv.pu, hv.frz, hv.shut, hv.shut1, hv.res, hv.one, hv.cells, show ¬ (n : Int) < s.length by omega, show (18 : Int) < s.length by omega]
        rw [if_pos (by omega)]
      · simp only [go_sem, Nat.reduceEqDiff, Nat.reduceAdd, Nat.reduceMul, Nat.reduceLT, Nat.reduceLeDiff, Nat.mul_one, c2, hv.len, hv.pu, hv.frz, hv.shut, hv.shut1, hv.res, hv.one, hv.cells, show ¬ (n : Int) < s.length by omega, show ¬ (18 : Int) < s.length by omega]
        rw [if_neg (by omega)]
        generalize hq : D P L (.loop [0, 5] c2_0) _ = q
        obtain ⟨ex, st, rfl, tm, ct, rfl, h2⟩ := of_key hq (key s.length) ⟨0, by simp only [go_sem, Nat.reduceEqDiff, Nat.reduceAdd, Nat.reduceMul, Nat.reduceLT, Nat.reduceLeDiff, Nat.mul_one, compact0, refs_pure hv.pu, ren_pure _ hv.pu] <;> rfl, by omega, by omega, rfl⟩
        rcases h2 with ⟨rfl, h2⟩ | ⟨rfl, h2⟩
        · simp only [go_sem, Nat.reduceEqDiff, Nat.reduceAdd, Nat.reduceMul, Nat.reduceLT, Nat.reduceLeDiff, Nat.mul_one, h2]
        · rw [h2]; simp only [go_sem, Nat.reduceEqDiff, Nat.reduceAdd, Nat.reduceMul, Nat.reduceLT, Nat.reduceLeDiff, Nat.mul_one]
  · rintro k st ⟨i, rfl, hk, hl, hf⟩
    simp only [go_sem, Nat.reduceEqDiff, Nat.reduceAdd, Nat.reduceMul, Nat.reduceLT, Nat.reduceLeDiff, Nat.mul_one, c2_0, hv.len, hv.pu, hv.frz, hv.shut, hv.shut1, hv.res, hv.one, hv.cells]
    by_cases hi : i < s.length
    · have hi' : (i : Int) < s.length := by omega
      rw [rowsShort_drop hi] at hf
      obtain ⟨r, rest, hr1, hr2⟩ := hv.ixa hi
      by_cases h1 : 18 < s[i].length
      · right
        rw [if_pos h1] at hf
        simp only [go_sem, Nat.reduceEqDiff, Nat.reduceAdd, Nat.reduceMul, Nat.reduceLT, Nat.reduceLeDiff, Nat.mul_one, hi', hr2, hr1.len, hr1.pu, hr1.frz, hr1.shut, hr1.shut1, hr1.res, hr1.one, hr1.cells, show (18 : Int) < s[i].length by omega]
        refine ⟨_, _, rfl, by simp, _, _, rfl, .inl ⟨rfl, ?_⟩⟩
        simp only [go_sem, Nat.reduceEqDiff, Nat.reduceAdd, Nat.reduceMul, Nat.reduceLT, Nat.reduceLeDiff, Nat.mul_one, ← hf]
      · left
        rw [if_neg h1] at hf
        simp only [go_sem, Nat.reduceEqDiff, Nat.reduceAdd, Nat.reduceMul, Nat.reduceLT, Nat.reduceLeDiff, Nat.mul_one, hi', hr2, hr1.len, hr1.pu, hr1.frz, hr1.shut, hr1.shut1, hr1.res, hr1.one, hr1.cells, show ¬ (18 : Int) < s[i].length by omega]
        refine ⟨_, k - 1, rfl, by omega, i + 1, ?_, by omega, hl, hf⟩
        rw [wrap64 (by omega) (by omega)]
        simp only [go_sem, Nat.reduceEqDiff, Nat.reduceAdd, Nat.reduceMul, Nat.reduceLT, Nat.reduceLeDiff, Nat.mul_one, compact0, refs_pure hv.pu, ren_pure _ hv.pu] <;> rfl
    · right
      simp only [go_sem, Nat.reduceEqDiff, Nat.reduceAdd, Nat.reduceMul, Nat.reduceLT, Nat.reduceLeDiff, Nat.mul_one, show ¬ (i : Int) < s.length by omega]
      refine ⟨_, _, rfl, by simp, _, _, rfl, .inr ⟨rfl, ?_⟩⟩
      rw [← hf, List.drop_eq_nil_of_le (by omega)]
      rfl

theorem s59 (h : Has P L 59 c59) {v w : AV} {l m : List Int} (hv : IsI v l) (hw : IsI w m) (hl : l.length ≤ 1000000) (he : l = m) : Ans P L 59 [v, w] (.bool true) := by
  subst he
  have key := loop_can (P := P) (L := L) (live := [0, 1, 5]) (a := c59_0)
    (I := fun k st => ∃ i : Nat, st = ⟨[(0, v), (1, w), (5, I64 i)], [], 0, 0⟩ ∧ i + k = l.length)
    (Q := fun ex st => ∃ tm ct, st = ⟨tm, [], ct, 0⟩ ∧ ex = .exit 0) ?_
  · unfold Ans; rw [call_eq h]
    simp only [go_sem, Nat.reduceEqDiff, Nat.reduceAdd, Nat.reduceMul, Nat.reduceLT, Nat.reduceLeDiff, Nat.mul_one, c59, hv.len, hv.pu, hv.frz, hv.shut, hv.shut1, hv.res, hv.one, hv.cells, hw.len, hw.pu, hw.frz, hw.shut, hw.shut1, hw.res, hw.one, hw.cells]
    generalize hq : D P L (.loop [0, 1, 5] c59_0) _ = q
    obtain ⟨ex, st, rfl, tm, ct, rfl, rfl⟩ := of_key hq (key l.length) ⟨0, by simp only [go_sem, Nat.reduceEqDiff, Nat.reduceAdd, Nat.reduceMul, Nat.reduceLT, Nat.reduceLeDiff, Nat.mul_one, compact0, refs_pure hv.pu, ren_pure _ hv.pu, refs_pure hw.pu, ren_pure _ hw.pu] <;> rfl, by omega⟩
    simp only [go_sem, Nat.reduceEqDiff, Nat.reduceAdd, Nat.reduceMul, Nat.reduceLT, Nat.reduceLeDiff, Nat.mul_one]
  · rintro k st ⟨i, rfl, hk⟩
    simp only [go_sem, Nat.reduceEqDiff, Nat.reduceAdd, Nat.reduceMul, Nat.reduceLT, Nat.reduceLeDiff, Nat.mul_one, c59_0, hv.len, hv.pu, hv.frz, hv.shut, hv.shut1, hv.res, hv.one, hv.cells, hw.len, hw.pu, hw.frz, hw.shut, hw.shut1, hw.res, hw.one, hw.cells]
    by_cases hi : i < l.length
    · have hi' : (i : Int) < l.length := by omega
      left
      simp only [go_sem, Nat.reduceEqDiff, Nat.reduceAdd, Nat.reduceMul, Nat.reduceLT, Nat.reduceLeDiff, Nat.mul_one, hi', hv.ixa hi, hw.ixa hi]
      refine ⟨_, k - 1, rfl, by omega, i + 1, ?_, by omega⟩
      rw [wrap64 (by omega) (by omega)]
      simp only [go_sem, Nat.reduceEqDiff, Nat.reduceAdd, Nat.reduceMul, Nat.reduceLT, Nat.reduceLeDiff, Nat.mul_one, compact0, refs_pure hv.pu, ren_pure _ hv.pu, refs_pure hw.pu, ren_pure _ hw.pu] <;> rfl
    · right
      simp only [go_sem, Nat.reduceEqDiff, Nat.reduceAdd, Nat.reduceMul, Nat.reduceLT, Nat.reduceLeDiff, Nat.mul_one, show ¬ (i : Int) < l.length by omega]
      exact ⟨_, _, rfl, by simp, _, _, rfl, rfl⟩

theorem s21 (h : Has P L 21 c21) (h59 : Has P L 59 c59) {v w : AV} {s t : List (List Int)} (hv : IsS v s) (hw : IsS w t) (hl : s.length ≤ 1000000) (hr : ∀ i (hi : i < s.length), s[i].length ≤ 1000000) (he : s = t) : Ans P L 21 [v, w] (.bool true) := by
  subst he
  have key := loop_can (P := P) (L := L) (live := [0, 1, 5]) (a := c21_0)
    (I := fun k st => ∃ i : Nat, st = ⟨[(0, v), (1, w), (5, I64 i)], [], 0, 0⟩ ∧ i + k = s.length)
    (Q := fun ex st => ∃ tm ct, st = ⟨tm, [], ct, 0⟩ ∧ ex = .exit 0) ?_
  · unfold Ans; rw [call_eq h]
    simp only [go_sem, Nat.reduceEqDiff, Nat.reduceAdd, Nat.reduceMul, Nat.reduceLT, Nat.reduceLeDiff, Nat.mul_one, c21, hv.len, hv.pu, hv.frz, hv.shut, hv.shut1, hv.res, hv.one, hv.cells, hw.len, hw.pu, hw.frz, hw.shut, hw.shut1, hw.res, hw.one, hw.cells]
    generalize hq : D P L (.loop [0, 1, 5] c21_0) _ = q
    obtain ⟨ex, st, rfl, tm, ct, rfl, rfl⟩ := of_key hq (key s.length) ⟨0, by simp only [go_sem, Nat.reduceEqDiff, Nat.reduceAdd, Nat.reduceMul, Nat.reduceLT, Nat.reduceLeDiff, Nat.mul_one, compact0, refs_pure hv.pu, ren_pure _ hv.pu, refs_pure hw.pu, ren_pure _ hw.pu] <;> rfl, by omega⟩
    simp only [go_sem, Nat.reduceEqDiff, Nat.reduceAdd, Nat.reduceMul, Nat.reduceLT, Nat.reduceLeDiff, Nat.mul_one]
  · rintro k st ⟨i, rfl, hk⟩
    simp only [go_sem, Nat.reduceEqDiff, Nat.reduceAdd, Nat.reduceMul, Nat.reduceLT, Nat.reduceLeDiff, Nat.mul_one, c21_0, hv.len, hv.pu, hv.frz, hv.shut, hv.shut1, hv.res, hv.one, hv.cells, hw.len, hw.pu, hw.frz, hw.shut, hw.shut1, hw.res, hw.one, hw.cells]
    by_cases hi : i < s.length
    · have hi' : (i : Int) < s.length := by omega
      obtain ⟨r, rest, hr1, hr2⟩ := hv.ixa hi
      obtain ⟨q, rest', hq1, hq2⟩ := hw.ixa hi
      have hc := s59 h59 hr1 hq1 (hr i hi) rfl
      unfold Ans at hc
      left
      simp only [go_sem, Nat.reduceEqDiff, Nat.reduceAdd, Nat.reduceMul, Nat.reduceLT, Nat.reduceLeDiff, Nat.mul_one, hi', hr2, hq2, hr1.len, hr1.pu, hr1.frz, hr1.shut, hr1.shut1, hr1.res, hr1.one, hr1.cells, hq1.len, hq1.pu, hq1.frz, hq1.shut, hq1.shut1, hq1.res, hq1.one, hq1.cells, hc]
      refine ⟨_, k - 1, rfl, by omega, i + 1, ?_, by omega⟩
      rw [wrap64 (by omega) (by omega)]
      simp only [go_sem, Nat.reduceEqDiff, Nat.reduceAdd, Nat.reduceMul, Nat.reduceLT, Nat.reduceLeDiff, Nat.mul_one, compact0, refs_pure hv.pu, ren_pure _ hv.pu, refs_pure hw.pu, ren_pure _ hw.pu] <;> rfl
    · right
      simp only [go_sem, Nat.reduceEqDiff, Nat.reduceAdd, Nat.reduceMul, Nat.reduceLT, Nat.reduceLeDiff, Nat.mul_one, show ¬ (i : Int) < s.length by omega]
      exact ⟨_, _, rfl, by simp, _, _, rfl, rfl⟩

/-- 'grid' of an error. -/
theorem s7e (h : Has P L 7 c7) {e : Int} (he : e ≠ 0) : Ans P L 7 [.nils, I64 e, I64 e, .nils] (.bool true) := by
  unfold Ans; rw [call_eq h]
  simp only [go_sem, Nat.reduceEqDiff, Nat.reduceAdd, Nat.reduceMul, Nat.reduceLT, Nat.reduceLeDiff, Nat.mul_one, c7, he, Int.natCast_zero, Int.cast_ofNat_Int]
theorem s7s (h : Has P L 7 c7) (h21 : Has P L 21 c21) (h59 : Has P L 59 c59) {v w : AV} {s : List (List Int)} (hv : IsS v s) (hw : IsS w s) (hl : s.length ≤ 1000000) (hr : ∀ i (hi : i < s.length), s[i].length ≤ 1000000) : Ans P L 7 [v, I64 0, I64 0, w] (.bool true) := by
  have hc := s21 h21 h59 hv hw hl hr rfl
  unfold Ans at hc ⊢; rw [call_eq h]
  simp only [go_sem, Nat.reduceEqDiff, Nat.reduceAdd, Nat.reduceMul, Nat.reduceLT, Nat.reduceLeDiff, Nat.mul_one, c7, hv.len, hv.pu, hv.frz, hv.shut, hv.shut1, hv.res, hv.one, hv.cells, hw.len, hw.pu, hw.frz, hw.shut, hw.shut1, hw.res, hw.one, hw.cells, hc]

theorem s4 (h : Sq P L) {v : AV} {s : List (List Int)} (hv : IsS v s) (hl : s.length ≤ 1000000) (hr : ∀ i (hi : i < s.length), s[i].length ≤ 1000000) : Ans P L 4 [v] (I64 (chkScreen s)) := by
  have hc := s32 h hv hl hr (m := 1000) (by decide) (by decide)
  have hf : ∀ a b c : Int, Ans P L 33 [.vsl true 3 [.int .i64 a, .int .i64 b, .int .i64 c]] (I64 (firstI [a, b, c])) := fun a b c => s33 h.h33 (isI_vsl true [a, b, c]) (by simp)
  unfold Ans at hc hf ⊢; rw [call_eq h.h4]
  simp only [go_sem, Nat.reduceEqDiff, Nat.reduceAdd, Nat.reduceMul, Nat.reduceLT, Nat.reduceLeDiff, Nat.mul_one, c4, hv.len, hv.pu, hv.frz, hv.shut, hv.shut1, hv.res, hv.one, hv.cells, hc, s31 h.h31, hf]
  congr 2
  unfold chkScreen
  by_cases h1 : s.length = 0
  · simp [h1, firstI]
  · by_cases h2 : 16 < s.length
    · simp [h1, h2, firstI, show (16 : Int) < s.length by omega]
    · simp only [h1, h2, firstI, show ¬ (16 : Int) < s.length by omega, show ¬ (s.length : Int) = 0 by omega, decide_false, Bool.false_eq_true, if_false, if_true]
      split <;> simp_all
end
end VE
end
section
/- Chapter 7, integers: the reference's checks; cells; sums. -/
set_option maxRecDepth 100000
namespace VE
open Go (IntKind)
section
variable {P : Prog} {L : Lib}

theorem s3 (h : Has P L 3 c3) (h30 : Has P L 30 c30) {v : AV} {s : List (List Int)} (hv : IsS v s) : Ans P L 3 [v] (I64 (chkScreen s)) := by
  -- a row's values
  have inner : ∀ {i : Nat} (hi : i < s.length), s[i].length = s.length → s.length ≤ 16 → ∀ k st, (∃ j : Nat, compact [0, 3, 4] st = ⟨[(0, v), (3, I64 i), (4, I64 j)], [], 0, 0⟩ ∧ j + k = s.length ∧ outI (-1000) 1000 (s[i].drop j) = outI (-1000) 1000 s[i]) →
      ∃ ex st', D P L (.loop [0, 3, 4] c3_0) st = some (ex, st') ∧ ∃ tm ct, st' = ⟨tm, [], ct, 0⟩ ∧ ((ex = .ret ∧ tget tm 2 = I64 3 ∧ outI (-1000) 1000 s[i] = true) ∨ (ex = .exit 2 ∧ tget tm 0 = v ∧ tget tm 3 = I64 i ∧ outI (-1000) 1000 s[i] = false)) := by
    intro i hi hr hl
    refine loop_can (I := fun k st => ∃ j : Nat, st = ⟨[(0, v), (3, I64 i), (4, I64 j)], [], 0, 0⟩ ∧ j + k = s.length ∧ outI (-1000) 1000 (s[i].drop j) = outI (-1000) 1000 s[i])
      (Q := fun ex st => ∃ tm ct, st = ⟨tm, [], ct, 0⟩ ∧ ((ex = .ret ∧ tget tm 2 = I64 3 ∧ outI (-1000) 1000 s[i] = true) ∨ (ex = .exit 2 ∧ tget tm 0 = v ∧ tget tm 3 = I64 i ∧ outI (-1000) 1000 s[i] = false))) ?_
    rintro k st ⟨j, rfl, hk, hf⟩
    simp only [go_sem, Nat.reduceEqDiff, Nat.reduceAdd, Nat.reduceMul, Nat.reduceLT, Nat.reduceLeDiff, Nat.mul_one, c3_0, hv.len, hv.pu, hv.frz, hv.shut, hv.shut1, hv.res, hv.one, hv.cells]
    obtain ⟨r, rest, hr1, hr2⟩ := hv.ixa hi
    by_cases hj : j < s.length
    · have hj' : (j : Int) < s.length := by omega
      have hjr : j < s[i].length := by omega
      rw [outI_drop hjr] at hf
      by_cases h1 : s[i][j] < -1000 ∨ 1000 < s[i][j]
      · right
        rw [if_pos h1] at hf
        simp only [go_sem, Nat.reduceEqDiff, Nat.reduceAdd, Nat.reduceMul, Nat.reduceLT, Nat.reduceLeDiff, Nat.mul_one, hj', hr2, hr1.ixa hjr, hv.len, hv.pu, hv.frz, hv.shut, hv.shut1, hv.res, hv.one, hv.cells,  s30 h30, h1, if_true, Int.reduceEq]
        refine ⟨_, _, rfl, by simp, _, _, rfl, .inl ⟨rfl, ?_, hf.symm⟩⟩
        simp only [go_sem, Nat.reduceEqDiff, Nat.reduceAdd, Nat.reduceMul, Nat.reduceLT, Nat.reduceLeDiff, Nat.mul_one]
      · left
        rw [if_neg h1] at hf
        simp only [go_sem, Nat.reduceEqDiff, Nat.reduceAdd, Nat.reduceMul, Nat.reduceLT, Nat.reduceLeDiff, Nat.mul_one, hj', hr2, hr1.ixa hjr, hv.len, hv.pu, hv.frz, hv.shut, hv.shut1, hv.res, hv.one, hv.cells,  s30 h30, h1, if_false]
        refine ⟨_, k - 1, rfl, by omega, j + 1, ?_, by omega, hf⟩
        rw [wrap64 (by omega) (by omega)]
        simp only [go_sem, Nat.reduceEqDiff, Nat.reduceAdd, Nat.reduceMul, Nat.reduceLT, Nat.reduceLeDiff, Nat.mul_one, compact0, refs_pure hv.pu, ren_pure _ hv.pu] <;> rfl
    · right
      simp only [go_sem, Nat.reduceEqDiff, Nat.reduceAdd, Nat.reduceMul, Nat.reduceLT, Nat.reduceLeDiff, Nat.mul_one, show ¬ (j : Int) < s.length by omega]
      refine ⟨_, _, rfl, by simp, _, _, rfl, .inr ⟨rfl, ?_, ?_, ?_⟩⟩
      · simp only [go_sem, Nat.reduceEqDiff, Nat.reduceAdd, Nat.reduceMul, Nat.reduceLT, Nat.reduceLeDiff, Nat.mul_one]
      · simp only [go_sem, Nat.reduceEqDiff, Nat.reduceAdd, Nat.reduceMul, Nat.reduceLT, Nat.reduceLeDiff, Nat.mul_one]
      · rw [← hf, List.drop_eq_nil_of_le (by omega)]; rfl
  have key := loop_can (P := P) (L := L) (live := [0, 3]) (a := c3_1)
    (I := fun k st => ∃ i : Nat, st = ⟨[(0, v), (3, I64 i)], [], 0, 0⟩ ∧ i + k = s.length ∧ s.length ≤ 16 ∧ sqChk s.length (-1000) 1000 (s.drop i) = sqChk s.length (-1000) 1000 s)
    (Q := fun ex st => ∃ tm ct, st = ⟨tm, [], ct, 0⟩ ∧ ((ex = .ret ∧ tget tm 2 = I64 (sqChk s.length (-1000) 1000 s)) ∨ (ex = .exit 0 ∧ sqChk s.length (-1000) 1000 s = 0))) ?_
  · unfold Ans; rw [call_eq h]
    unfold chkScreen
    by_cases h1 : s.length = 0
    · simp only [go_sem, Nat.reduceEqDiff, Nat.reduceAdd, Nat.reduceMul, Nat.reduceLT, Nat.reduceLeDiff, Nat.mul_one, c3, hv.len, hv.pu, hv.frz, hv.shut, hv.shut1, hv.res, hv.one, hv.cells, show (s.length : Int) = 0 by omega]; rw [if_pos h1]
    · rw [if_neg h1]
      by_cases h2 : 16 < s.length
      · simp only [go_sem, Nat.reduceEqDiff, Nat.reduceAdd, Nat.reduceMul, Nat.reduceLT, Nat.reduceLeDiff, Nat.mul_one, c3, hv.len, hv.pu, hv.frz, hv.shut, hv.shut1, hv.res, hv.one, hv.cells, show ¬ (s.length : Int) = 0 by omega, show (16 : Int) < s.length by omega]; rw [if_pos h2]
      · simp only [go_sem, Nat.reduceEqDiff, Nat.reduceAdd, Nat.reduceMul, Nat.reduceLT, Nat.reduceLeDiff, Nat.mul_one, c3, hv.len, hv.pu, hv.frz, hv.shut, hv.shut1, hv.res, hv.one, hv.cells, show ¬ (s.length : Int) = 0 by omega, show ¬ (16 : Int) < s.length by omega]
        rw [if_neg h2]
        generalize hq : D P L (.loop [0, 3] c3_1) _ = q
        obtain ⟨ex, st, rfl, tm, ct, rfl, h2⟩ := of_key hq (key s.length) ⟨0, by simp only [go_sem, Nat.reduceEqDiff, Nat.reduceAdd, Nat.reduceMul, Nat.reduceLT, Nat.reduceLeDiff, Nat.mul_one, compact0, refs_pure hv.pu, ren_pure _ hv.pu] <;> rfl, by omega, by omega, rfl⟩
        rcases h2 with ⟨rfl, h2⟩ | ⟨rfl, h2⟩
        · simp only [go_sem, Nat.reduceEqDiff, Nat.reduceAdd, Nat.reduceMul, Nat.reduceLT, Nat.reduceLeDiff, Nat.mul_one, h2]
        · rw [h2]; simp only [go_sem, Nat.reduceEqDiff, Nat.reduceAdd, Nat.reduceMul, Nat.reduceLT, Nat.reduceLeDiff, Nat.mul_one]
  · rintro k st ⟨i, rfl, hk, hl, hf⟩
    simp only [go_sem, Nat.reduceEqDiff, Nat.reduceAdd, Nat.reduceMul, Nat.reduceLT, Nat.reduceLeDiff, Nat.mul_one, c3_1, hv.len, hv.pu, hv.frz, hv.shut, hv.shut1, hv.res, hv.one, hv.cells]
    by_cases hi : i < s.length
    · have hi' : (i : Int) < s.length := by omega
      rw [sqChk_drop hi] at hf
      obtain ⟨r, rest, hr1, hr2⟩ := hv.ixa hi
      by_cases h1 : s[i].length = s.length
      · simp only [h1, ne_eq, not_true_eq_false, if_false] at hf
        simp only [go_sem, Nat.reduceEqDiff, Nat.reduceAdd, Nat.reduceMul, Nat.reduceLT, Nat.reduceLeDiff, Nat.mul_one, hi', hr2, hr1.len, hr1.pu, hr1.frz, hr1.shut, hr1.shut1, hr1.res, hr1.one, hr1.cells, hv.len, hv.pu, hv.frz, hv.shut, hv.shut1, hv.res, hv.one, hv.cells, show (s[i].length : Int) = s.length by omega]
        generalize hq : D P L (.loop [0, 3, 4] c3_0) _ = q
        obtain ⟨ex, st, rfl, tm, ct, rfl, h2⟩ := of_key hq (inner hi h1 hl s.length) ⟨0, by simp only [go_sem, Nat.reduceEqDiff, Nat.reduceAdd, Nat.reduceMul, Nat.reduceLT, Nat.reduceLeDiff, Nat.mul_one, compact0, refs_pure hv.pu, ren_pure _ hv.pu] <;> rfl, by omega, rfl⟩
        rcases h2 with ⟨rfl, h2, h3⟩ | ⟨rfl, h2, h3, h4⟩
        · right
          rw [if_pos h3] at hf
          exact ⟨_, _, rfl, by simp, _, _, rfl, .inl ⟨rfl, by rw [h2, ← hf]⟩⟩
        · left
          rw [if_neg (by simp [h4])] at hf
          simp only [go_sem, Nat.reduceEqDiff, Nat.reduceAdd, Nat.reduceMul, Nat.reduceLT, Nat.reduceLeDiff, Nat.mul_one, compact0, h2, h3, refs_pure hv.pu, ren_pure _ hv.pu]
          refine ⟨_, k - 1, rfl, by omega, i + 1, ?_, by omega, hl, hf⟩
          rw [wrap64 (by omega) (by omega)]
          simp only [go_sem, Nat.reduceEqDiff, Nat.reduceAdd, Nat.reduceMul, Nat.reduceLT, Nat.reduceLeDiff, Nat.mul_one, compact0, refs_pure hv.pu, ren_pure _ hv.pu] <;> rfl
      · right
        simp only [h1, ne_eq, not_false_eq_true, if_true] at hf
        simp only [go_sem, Nat.reduceEqDiff, Nat.reduceAdd, Nat.reduceMul, Nat.reduceLT, Nat.reduceLeDiff, Nat.mul_one, hi', hr2, hr1.len, hr1.pu, hr1.frz, hr1.shut, hr1.shut1, hr1.res, hr1.one, hr1.cells, hv.len, hv.pu, hv.frz, hv.shut, hv.shut1, hv.res, hv.one, hv.cells, show ¬ (s[i].length : Int) = s.length by omega]
        refine ⟨_, _, rfl, by simp, _, _, rfl, .inl ⟨rfl, ?_⟩⟩
        simp only [go_sem, Nat.reduceEqDiff, Nat.reduceAdd, Nat.reduceMul, Nat.reduceLT, Nat.reduceLeDiff, Nat.mul_one, ← hf]
    · right
      simp only [go_sem, Nat.reduceEqDiff, Nat.reduceAdd, Nat.reduceMul, Nat.reduceLT, Nat.reduceLeDiff, Nat.mul_one, show ¬ (i : Int) < s.length by omega]
      refine ⟨_, _, rfl, by simp, _, _, rfl, .inr ⟨rfl, ?_⟩⟩
      rw [← hf, List.drop_eq_nil_of_le (by omega)]
      rfl

theorem s10 (h : Has P L 10 c10) (h30 : Has P L 30 c30) {v : AV} {s : List (List Int)} (hv : IsS v s) : Ans P L 10 [v] (I64 (chkKernel s)) := by
  have inner : ∀ {i : Nat} (hi : i < s.length), s[i].length = s.length → s.length ≤ 16 → ∀ k st, (∃ j : Nat, compact [0, 3, 4] st = ⟨[(0, v), (3, I64 i), (4, I64 j)], [], 0, 0⟩ ∧ j + k = s.length ∧ outI (-100) 100 (s[i].drop j) = outI (-100) 100 s[i]) →
      ∃ ex st', D P L (.loop [0, 3, 4] c10_0) st = some (ex, st') ∧ ∃ tm ct, st' = ⟨tm, [], ct, 0⟩ ∧ ((ex = .ret ∧ tget tm 2 = I64 3 ∧ outI (-100) 100 s[i] = true) ∨ (ex = .exit 2 ∧ tget tm 0 = v ∧ tget tm 3 = I64 i ∧ outI (-100) 100 s[i] = false)) := by
    intro i hi hr hl
    refine loop_can (I := fun k st => ∃ j : Nat, st = ⟨[(0, v), (3, I64 i), (4, I64 j)], [], 0, 0⟩ ∧ j + k = s.length ∧ outI (-100) 100 (s[i].drop j) = outI (-100) 100 s[i])
      (Q := fun ex st => ∃ tm ct, st = ⟨tm, [], ct, 0⟩ ∧ ((ex = .ret ∧ tget tm 2 = I64 3 ∧ outI (-100) 100 s[i] = true) ∨ (ex = .exit 2 ∧ tget tm 0 = v ∧ tget tm 3 = I64 i ∧ outI (-100) 100 s[i] = false))) ?_
    rintro k st ⟨j, rfl, hk, hf⟩
    simp only [go_sem, Nat.reduceEqDiff, Nat.reduceAdd, Nat.reduceMul, Nat.reduceLT, Nat.reduceLeDiff, Nat.mul_one, c10_0, hv.len, hv.pu, hv.frz, hv.shut, hv.shut1, hv.res, hv.one, hv.cells]
    obtain ⟨r, rest, hr1, hr2⟩ := hv.ixa hi
    by_cases hj : j < s.length
    · have hj' : (j : Int) < s.length := by omega
      have hjr : j < s[i].length := by omega
      rw [outI_drop hjr] at hf
      by_cases h1 : s[i][j] < -100 ∨ 100 < s[i][j]
      · right
        rw [if_pos h1] at hf
        simp only [go_sem, Nat.reduceEqDiff, Nat.reduceAdd, Nat.reduceMul, Nat.reduceLT, Nat.reduceLeDiff, Nat.mul_one, hj', hr2, hr1.ixa hjr, hv.len, hv.pu, hv.frz, hv.shut, hv.shut1, hv.res, hv.one, hv.cells,  s30 h30, h1, if_true, Int.reduceEq]
        refine ⟨_, _, rfl, by simp, _, _, rfl, .inl ⟨rfl, ?_, hf.symm⟩⟩
        simp only [go_sem, Nat.reduceEqDiff, Nat.reduceAdd, Nat.reduceMul, Nat.reduceLT, Nat.reduceLeDiff, Nat.mul_one]
      · left
        rw [if_neg h1] at hf
        simp only [go_sem, Nat.reduceEqDiff, Nat.reduceAdd, Nat.reduceMul, Nat.reduceLT, Nat.reduceLeDiff, Nat.mul_one, hj', hr2, hr1.ixa hjr, hv.len, hv.pu, hv.frz, hv.shut, hv.shut1, hv.res, hv.one, hv.cells,  s30 h30, h1, if_false]
        refine ⟨_, k - 1, rfl, by omega, j + 1, ?_, by omega, hf⟩
        rw [wrap64 (by omega) (by omega)]
        simp only [go_sem, Nat.reduceEqDiff, Nat.reduceAdd, Nat.reduceMul, Nat.reduceLT, Nat.reduceLeDiff, Nat.mul_one, compact0, refs_pure hv.pu, ren_pure _ hv.pu] <;> rfl
    · right
      simp only [go_sem, Nat.reduceEqDiff, Nat.reduceAdd, Nat.reduceMul, Nat.reduceLT, Nat.reduceLeDiff, Nat.mul_one, show ¬ (j : Int) < s.length by omega]
      refine ⟨_, _, rfl, by simp, _, _, rfl, .inr ⟨rfl, ?_, ?_, ?_⟩⟩
      · simp only [go_sem, Nat.reduceEqDiff, Nat.reduceAdd, Nat.reduceMul, Nat.reduceLT, Nat.reduceLeDiff, Nat.mul_one]
      · simp only [go_sem, Nat.reduceEqDiff, Nat.reduceAdd, Nat.reduceMul, Nat.reduceLT, Nat.reduceLeDiff, Nat.mul_one]
      · rw [← hf, List.drop_eq_nil_of_le (by omega)]; rfl
  have key := loop_can (P := P) (L := L) (live := [0, 3]) (a := c10_1)
    (I := fun k st => ∃ i : Nat, st = ⟨[(0, v), (3, I64 i)], [], 0, 0⟩ ∧ i + k = s.length ∧ s.length ≤ 16 ∧ sqChk s.length (-100) 100 (s.drop i) = sqChk s.length (-100) 100 s)
    (Q := fun ex st => ∃ tm ct, st = ⟨tm, [], ct, 0⟩ ∧ ((ex = .ret ∧ tget tm 2 = I64 (sqChk s.length (-100) 100 s)) ∨ (ex = .exit 0 ∧ sqChk s.length (-100) 100 s = 0))) ?_
  · unfold Ans; rw [call_eq h]
    unfold chkKernel
    by_cases h1 : s.length = 0
    · simp only [go_sem, Nat.reduceEqDiff, Nat.reduceAdd, Nat.reduceMul, Nat.reduceLT, Nat.reduceLeDiff, Nat.mul_one, c10, hv.len, hv.pu, hv.frz, hv.shut, hv.shut1, hv.res, hv.one, hv.cells, show (s.length : Int) = 0 by omega]; rw [if_pos h1]
    · rw [if_neg h1]
      by_cases h2 : 5 < s.length
      · simp only [go_sem, Nat.reduceEqDiff, Nat.reduceAdd, Nat.reduceMul, Nat.reduceLT, Nat.reduceLeDiff, Nat.mul_one, c10, hv.len, hv.pu, hv.frz, hv.shut, hv.shut1, hv.res, hv.one, hv.cells, show ¬ (s.length : Int) = 0 by omega, show (5 : Int) < s.length by omega]; rw [if_pos h2]
      · rw [if_neg h2]
        have hm : (s.length : Int).tmod 2 = (s.length % 2 : Nat) := by rw [Int.tmod_eq_emod_of_nonneg (by omega)]; rfl
        have hd : (2 : Int) ≠ 0 := by decide
        by_cases h3 : s.length % 2 = 0
        · simp only [go_sem, Nat.reduceEqDiff, Nat.reduceAdd, Nat.reduceMul, Nat.reduceLT, Nat.reduceLeDiff, Nat.mul_one, c10, hv.len, hv.pu, hv.frz, hv.shut, hv.shut1, hv.res, hv.one, hv.cells, show ¬ (s.length : Int) = 0 by omega, show ¬ (5 : Int) < s.length by omega, bin_rem _ _ _ hd, hm, show ((s.length % 2 : Nat) : Int) = 0 by omega]; rw [if_pos h3]
        · simp only [go_sem, Nat.reduceEqDiff, Nat.reduceAdd, Nat.reduceMul, Nat.reduceLT, Nat.reduceLeDiff, Nat.mul_one, c10, hv.len, hv.pu, hv.frz, hv.shut, hv.shut1, hv.res, hv.one, hv.cells, show ¬ (s.length : Int) = 0 by omega, show ¬ (5 : Int) < s.length by omega, bin_rem _ _ _ hd, hm, show ¬ ((s.length % 2 : Nat) : Int) = 0 by omega]
          rw [if_neg h3]
          generalize hq : D P L (.loop [0, 3] c10_1) _ = q
          obtain ⟨ex, st, rfl, tm, ct, rfl, h2⟩ := of_key hq (key s.length) ⟨0, by simp only [go_sem, Nat.reduceEqDiff, Nat.reduceAdd, Nat.reduceMul, Nat.reduceLT, Nat.reduceLeDiff, Nat.mul_one, compact0, refs_pure hv.pu, ren_pure _ hv.pu] <;> rfl, by omega, by omega, rfl⟩
          rcases h2 with ⟨rfl, h2⟩ | ⟨rfl, h2⟩
          · simp only [go_sem, Nat.reduceEqDiff, Nat.reduceAdd, Nat.reduceMul, Nat.reduceLT, Nat.reduceLeDiff, Nat.mul_one, h2]
          · rw [h2]; simp only [go_sem, Nat.reduceEqDiff, Nat.reduceAdd, Nat.reduceMul, Nat.reduceLT, Nat.reduceLeDiff, Nat.mul_one]
  · rintro k st ⟨i, rfl, hk, hl, hf⟩
    simp only [go_sem, Nat.reduceEqDiff, Nat.reduceAdd, Nat.reduceMul, Nat.reduceLT, Nat.reduceLeDiff, Nat.mul_one, c10_1, hv.len, hv.pu, hv.frz, hv.shut, hv.shut1, hv.res, hv.one, hv.cells]
    by_cases hi : i < s.length
    · have hi' : (i : Int) < s.length := by omega
      rw [sqChk_drop hi] at hf
      obtain ⟨r, rest, hr1, hr2⟩ := hv.ixa hi
      by_cases h1 : s[i].length = s.length
      · simp only [h1, ne_eq, not_true_eq_false, if_false] at hf
        simp only [go_sem, Nat.reduceEqDiff, Nat.reduceAdd, Nat.reduceMul, Nat.reduceLT, Nat.reduceLeDiff, Nat.mul_one, hi', hr2, hr1.len, hr1.pu, hr1.frz, hr1.shut, hr1.shut1, hr1.res, hr1.one, hr1.cells, hv.len, hv.pu, hv.frz, hv.shut, hv.shut1, hv.res, hv.one, hv.cells, show (s[i].length : Int) = s.length by omega]
        generalize hq : D P L (.loop [0, 3, 4] c10_0) _ = q
        obtain ⟨ex, st, rfl, tm, ct, rfl, h2⟩ := of_key hq (inner hi h1 hl s.length) ⟨0, by simp only [go_sem, Nat.reduceEqDiff, Nat.reduceAdd, Nat.reduceMul, Nat.reduceLT, Nat.reduceLeDiff, Nat.mul_one, compact0, refs_pure hv.pu, ren_pure _ hv.pu] <;> rfl, by omega, rfl⟩
        rcases h2 with ⟨rfl, h2, h3⟩ | ⟨rfl, h2, h3, h4⟩
        · right
          rw [if_pos h3] at hf
          exact ⟨_, _, rfl, by simp, _, _, rfl, .inl ⟨rfl, by rw [h2, ← hf]⟩⟩
        · left
          rw [if_neg (by simp [h4])] at hf
          simp only [go_sem, Nat.reduceEqDiff, Nat.reduceAdd, Nat.reduceMul, Nat.reduceLT, Nat.reduceLeDiff, Nat.mul_one, compact0, h2, h3, refs_pure hv.pu, ren_pure _ hv.pu]
          refine ⟨_, k - 1, rfl, by omega, i + 1, ?_, by omega, hl, hf⟩
          rw [wrap64 (by omega) (by omega)]
          simp only [go_sem, Nat.reduceEqDiff, Nat.reduceAdd, Nat.reduceMul, Nat.reduceLT, Nat.reduceLeDiff, Nat.mul_one, compact0, refs_pure hv.pu, ren_pure _ hv.pu] <;> rfl
      · right
        simp only [h1, ne_eq, not_false_eq_true, if_true] at hf
        simp only [go_sem, Nat.reduceEqDiff, Nat.reduceAdd, Nat.reduceMul, Nat.reduceLT, Nat.reduceLeDiff, Nat.mul_one, hi', hr2, hr1.len, hr1.pu, hr1.frz, hr1.shut, hr1.shut1, hr1.res, hr1.one, hr1.cells, hv.len, hv.pu, hv.frz, hv.shut, hv.shut1, hv.res, hv.one, hv.cells, show ¬ (s[i].length : Int) = s.length by omega]
        refine ⟨_, _, rfl, by simp, _, _, rfl, .inl ⟨rfl, ?_⟩⟩
        simp only [go_sem, Nat.reduceEqDiff, Nat.reduceAdd, Nat.reduceMul, Nat.reduceLT, Nat.reduceLeDiff, Nat.mul_one, ← hf]
    · right
      simp only [go_sem, Nat.reduceEqDiff, Nat.reduceAdd, Nat.reduceMul, Nat.reduceLT, Nat.reduceLeDiff, Nat.mul_one, show ¬ (i : Int) < s.length by omega]
      refine ⟨_, _, rfl, by simp, _, _, rfl, .inr ⟨rfl, ?_⟩⟩
      rw [← hf, List.drop_eq_nil_of_le (by omega)]
      rfl
end
end VE
end
section
/- Chapter 7, integers: what is drawn: checks, sums. -/
set_option maxRecDepth 100000
namespace VE
open Go (IntKind)
section
variable {P : Prog} {L : Lib}

theorem s6 (h : Has P L 6 c6) (h30 : Has P L 30 c30) {v : AV} {l : List Int} (hv : IsI v l) (key' side : Int) : Ans P L 6 [I64 key', I64 side, v] (I64 (chkDrawn key' side l)) := by
  have key := loop_can (P := P) (L := L) (live := [2, 7, 8]) (a := c6_0)
    (I := fun k st => ∃ i : Nat, st = ⟨[(2, v), (7, I64 (sumI (l.take i))), (8, I64 i)], [], 0, 0⟩ ∧ i + k = l.length ∧ l.length ≤ 33 ∧ outI 0 1000 (l.take i) = false ∧ outI 0 1000 (l.drop i) = outI 0 1000 l)
    (Q := fun ex st => ∃ tm ct, st = ⟨tm, [], ct, 0⟩ ∧ ((ex = .ret ∧ tget tm 6 = I64 3 ∧ outI 0 1000 l = true) ∨ (ex = .exit 0 ∧ tget tm 7 = I64 (sumI l) ∧ outI 0 1000 l = false))) ?_
  · unfold Ans; rw [call_eq h]
    unfold chkDrawn
    have hm : (l.length : Int).tmod 2 = (l.length % 2 : Nat) := by rw [Int.tmod_eq_emod_of_nonneg (by omega)]; rfl
    have hd : (2 : Int) ≠ 0 := by decide
    by_cases h1 : key' < 1 ∨ 2147483646 < key'
    · rw [if_pos h1]
      simp only [go_sem, Nat.reduceEqDiff, Nat.reduceAdd, Nat.reduceMul, Nat.reduceLT, Nat.reduceLeDiff, Nat.mul_one, c6, hv.len, hv.pu, hv.frz, hv.shut, hv.shut1, hv.res, hv.one, hv.cells, s30 h30, h1, if_true, Int.reduceEq]
    · rw [if_neg h1]
      by_cases h2 : side < 1 ∨ 16 < side
      · rw [if_pos h2]
        simp only [go_sem, Nat.reduceEqDiff, Nat.reduceAdd, Nat.reduceMul, Nat.reduceLT, Nat.reduceLeDiff, Nat.mul_one, c6, hv.len, hv.pu, hv.frz, hv.shut, hv.shut1, hv.res, hv.one, hv.cells, s30 h30, h1, h2, if_true, if_false, Int.reduceEq]
      · rw [if_neg h2]
        by_cases h3 : l.length = 0
        · simp only [go_sem, Nat.reduceEqDiff, Nat.reduceAdd, Nat.reduceMul, Nat.reduceLT, Nat.reduceLeDiff, Nat.mul_one, c6, hv.len, hv.pu, hv.frz, hv.shut, hv.shut1, hv.res, hv.one, hv.cells, s30 h30, h1, h2, if_true, if_false, Int.reduceEq, show (l.length : Int) = 0 by omega]; rw [if_pos h3]
        · rw [if_neg h3]
          by_cases h4 : 33 < l.length
          · simp only [go_sem, Nat.reduceEqDiff, Nat.reduceAdd, Nat.reduceMul, Nat.reduceLT, Nat.reduceLeDiff, Nat.mul_one, c6, hv.len, hv.pu, hv.frz, hv.shut, hv.shut1, hv.res, hv.one, hv.cells, s30 h30, h1, h2, if_true, if_false, Int.reduceEq, show ¬ (l.length : Int) = 0 by omega, show (33 : Int) < l.length by omega]; rw [if_pos h4]
          · rw [if_neg h4]
            by_cases h5 : l.length % 2 = 0
            · simp only [go_sem, Nat.reduceEqDiff, Nat.reduceAdd, Nat.reduceMul, Nat.reduceLT, Nat.reduceLeDiff, Nat.mul_one, c6, hv.len, hv.pu, hv.frz, hv.shut, hv.shut1, hv.res, hv.one, hv.cells, s30 h30, h1, h2, if_true, if_false, Int.reduceEq, show ¬ (l.length : Int) = 0 by omega, show ¬ (33 : Int) < l.length by omega, bin_rem _ _ _ hd, hm, show ((l.length % 2 : Nat) : Int) = 0 by omega]; rw [if_pos h5]
            · simp only [go_sem, Nat.reduceEqDiff, Nat.reduceAdd, Nat.reduceMul, Nat.reduceLT, Nat.reduceLeDiff, Nat.mul_one, c6, hv.len, hv.pu, hv.frz, hv.shut, hv.shut1, hv.res, hv.one, hv.cells, s30 h30, h1, h2, if_true, if_false, Int.reduceEq, show ¬ (l.length : Int) = 0 by omega, show ¬ (33 : Int) < l.length by omega, bin_rem _ _ _ hd, hm, show ¬ ((l.length % 2 : Nat) : Int) = 0 by omega]
              rw [if_neg h5]
              generalize hq : D P L (.loop [2, 7, 8] c6_0) _ = q
              obtain ⟨ex, st, rfl, tm, ct, rfl, h2⟩ := of_key hq (key l.length) ⟨0, by simp only [go_sem, Nat.reduceEqDiff, Nat.reduceAdd, Nat.reduceMul, Nat.reduceLT, Nat.reduceLeDiff, Nat.mul_one, compact0, refs_pure hv.pu, ren_pure _ hv.pu] <;> rfl, by omega, by omega, rfl, rfl⟩
              rcases h2 with ⟨rfl, h2, h3⟩ | ⟨rfl, h2, h3⟩
              · simp only [go_sem, Nat.reduceEqDiff, Nat.reduceAdd, Nat.reduceMul, Nat.reduceLT, Nat.reduceLeDiff, Nat.mul_one, h2]; rw [if_pos h3]
              · rw [if_neg (by simp [h3])]
                by_cases h6 : sumI l = 0
                · simp only [go_sem, Nat.reduceEqDiff, Nat.reduceAdd, Nat.reduceMul, Nat.reduceLT, Nat.reduceLeDiff, Nat.mul_one, compact0, h2, h6, if_true]
                · simp only [go_sem, Nat.reduceEqDiff, Nat.reduceAdd, Nat.reduceMul, Nat.reduceLT, Nat.reduceLeDiff, Nat.mul_one, compact0, h2, h6, if_false]
  · rintro k st ⟨i, rfl, hk, hl, h1, hf⟩
    simp only [go_sem, Nat.reduceEqDiff, Nat.reduceAdd, Nat.reduceMul, Nat.reduceLT, Nat.reduceLeDiff, Nat.mul_one, c6_0, hv.len, hv.pu, hv.frz, hv.shut, hv.shut1, hv.res, hv.one, hv.cells]
    by_cases hi : i < l.length
    · have hi' : (i : Int) < l.length := by omega
      rw [outI_drop hi] at hf
      by_cases h2 : l[i] < 0 ∨ 1000 < l[i]
      · right
        rw [if_pos h2] at hf
        simp only [go_sem, Nat.reduceEqDiff, Nat.reduceAdd, Nat.reduceMul, Nat.reduceLT, Nat.reduceLeDiff, Nat.mul_one, hi', hv.ixa hi, hv.len, hv.pu, hv.frz, hv.shut, hv.shut1, hv.res, hv.one, hv.cells, s30 h30, h2, if_true, Int.reduceEq]
        refine ⟨_, _, rfl, by simp, _, _, rfl, .inl ⟨rfl, ?_, hf.symm⟩⟩
        simp only [go_sem, Nat.reduceEqDiff, Nat.reduceAdd, Nat.reduceMul, Nat.reduceLT, Nat.reduceLeDiff, Nat.mul_one]
      · left
        rw [if_neg h2] at hf
        simp only [go_sem, Nat.reduceEqDiff, Nat.reduceAdd, Nat.reduceMul, Nat.reduceLT, Nat.reduceLeDiff, Nat.mul_one, hi', hv.ixa hi, hv.len, hv.pu, hv.frz, hv.shut, hv.shut1, hv.res, hv.one, hv.cells, s30 h30, h2, if_false]
        have hb := sumI_bound h1
        have ht : (l.take i).length = i := by rw [List.length_take]; omega
        refine ⟨_, k - 1, rfl, by omega, i + 1, ?_, by omega, hl, ?_, hf⟩
        · rw [wrap64 (n := (i : Int) + 1) (by omega) (by omega), wrap64 (by omega) (by omega), sumI_take hi]
          simp only [go_sem, Nat.reduceEqDiff, Nat.reduceAdd, Nat.reduceMul, Nat.reduceLT, Nat.reduceLeDiff, Nat.mul_one, compact0, refs_pure hv.pu, ren_pure _ hv.pu] <;> rfl
        · rw [List.take_succ_eq_append_getElem hi]
          clear ht hb hf hk
          generalize l.take i = m at h1
          induction m with
          | nil => simp [outI]; omega
          | cons a r ih =>
            simp only [outI] at h1
            split at h1
            · cases h1
            · rename_i hc
              simp only [List.cons_append, outI, hc, if_false]
              exact ih h1
    · right
      simp only [go_sem, Nat.reduceEqDiff, Nat.reduceAdd, Nat.reduceMul, Nat.reduceLT, Nat.reduceLeDiff, Nat.mul_one, show ¬ (i : Int) < l.length by omega]
      refine ⟨_, _, rfl, by simp, _, _, rfl, .inr ⟨rfl, ?_, ?_⟩⟩
      · simp only [go_sem, Nat.reduceEqDiff, Nat.reduceAdd, Nat.reduceMul, Nat.reduceLT, Nat.reduceLeDiff, Nat.mul_one]
        rw [List.take_of_length_le (by omega)]
      · rw [List.take_of_length_le (by omega)] at h1
        exact h1

theorem s37 (h : Has P L 37 c37) (h38 : Has P L 38 c38) {v : AV} {l : List Int} (hv : IsI v l) (hl : l.length ≤ 33) (ho : outI 0 1000 l = false) : Ans P L 37 [I64 0, v, .fn (.f 38) [] []] (I64 (sumI l)) := by
  have key := loop_can (P := P) (L := L) (live := [0, 2, 9, 10, 11]) (a := c37_0)
    (I := fun k st => ∃ i : Nat, st = ⟨[(0, I64 (sumI (l.take i))), (2, .fn (.f 38) [] []), (9, v), (10, I64 l.length), (11, I64 i)], [], 0, 0⟩ ∧ i + k = l.length)
    (Q := fun ex st => ∃ tm ct, st = ⟨tm, [], ct, 0⟩ ∧ ex = .exit 0 ∧ tget tm 0 = I64 (sumI l)) ?_
  · unfold Ans; rw [call_eq h]
    simp only [go_sem, Nat.reduceEqDiff, Nat.reduceAdd, Nat.reduceMul, Nat.reduceLT, Nat.reduceLeDiff, Nat.mul_one, c37, hv.len, hv.pu, hv.frz, hv.shut, hv.shut1, hv.res, hv.one, hv.cells]
    generalize hq : D P L (.loop [0, 2, 9, 10, 11] c37_0) _ = q
    obtain ⟨ex, st, rfl, tm, ct, rfl, rfl, h2⟩ := of_key hq (key l.length) ⟨0, by simp only [go_sem, Nat.reduceEqDiff, Nat.reduceAdd, Nat.reduceMul, Nat.reduceLT, Nat.reduceLeDiff, Nat.mul_one, compact0, refs_pure hv.pu, ren_pure _ hv.pu] <;> rfl, by omega⟩
    simp only [go_sem, Nat.reduceEqDiff, Nat.reduceAdd, Nat.reduceMul, Nat.reduceLT, Nat.reduceLeDiff, Nat.mul_one, compact0, h2]
  · rintro k st ⟨i, rfl, hk⟩
    simp only [go_sem, Nat.reduceEqDiff, Nat.reduceAdd, Nat.reduceMul, Nat.reduceLT, Nat.reduceLeDiff, Nat.mul_one, c37_0, hv.len, hv.pu, hv.frz, hv.shut, hv.shut1, hv.res, hv.one, hv.cells]
    by_cases hi : i < l.length
    · have hi' : (i : Int) < l.length := by omega
      left
      have hb := sumI_bound (outI_take ho i)
      have ht : (l.take i).length = i := by rw [List.length_take]; omega
      have hg := outI_get ho i hi
      simp only [go_sem, Nat.reduceEqDiff, Nat.reduceAdd, Nat.reduceMul, Nat.reduceLT, Nat.reduceLeDiff, Nat.mul_one, hi', hv.ixa hi, hv.len, hv.pu, hv.frz, hv.shut, hv.shut1, hv.res, hv.one, hv.cells, s38 h38, wrap64 (n := sumI (l.take i) + l[i]) (by omega) (by omega)]
      refine ⟨_, k - 1, rfl, by omega, i + 1, ?_, by omega⟩
      rw [wrap64 (by omega) (by omega), sumI_take hi]
      simp only [go_sem, Nat.reduceEqDiff, Nat.reduceAdd, Nat.reduceMul, Nat.reduceLT, Nat.reduceLeDiff, Nat.mul_one, compact0, refs_pure hv.pu, ren_pure _ hv.pu] <;> rfl
    · right
      simp only [go_sem, Nat.reduceEqDiff, Nat.reduceAdd, Nat.reduceMul, Nat.reduceLT, Nat.reduceLeDiff, Nat.mul_one, show ¬ (i : Int) < l.length by omega]
      refine ⟨_, _, rfl, by simp, _, _, rfl, rfl, ?_⟩
      simp only [go_sem, Nat.reduceEqDiff, Nat.reduceAdd, Nat.reduceMul, Nat.reduceLT, Nat.reduceLeDiff, Nat.mul_one]
      rw [List.take_of_length_le (by omega)]

theorem mapI_take {l : List Int} {f : Int → Int} {i : Nat} (h : i < l.length) : ((l.take (i + 1)).map f).map I64 = ((l.take i).map f).map I64 ++ [AV.int .i64 (f l[i])] := by
  rw [List.take_succ_eq_append_getElem h, List.map_append, List.map_append]
  rfl

theorem s35 (h : Has P L 35 c35) {v : AV} {l : List Int} (hv : IsI v l) (hl : l.length ≤ 1000000) {g : Nat} {f : Int → Int} (hg : ∀ x, Ans P L g [I64 x] (I64 (f x))) :
    ∃ r, Ans P L 35 [v, .fn (.f g) [] []] r ∧ IsI (shut r) (l.map f) := by
  have key := loop_can (P := P) (L := L) (live := [1, 5, 8, 9, 10]) (a := c35_0)
    (I := fun k st => ∃ i : Nat, i + k = l.length ∧ ((i = 0 ∧ st = ⟨[(1, .fn (.f g) [] []), (5, .nils), (8, v), (9, I64 l.length), (10, I64 i)], [], 0, 0⟩) ∨
      (0 < i ∧ st = ⟨[(1, .fn (.f g) [] []), (5, .osl 0 0 i), (8, v), (9, I64 l.length), (10, I64 i)], [(0, .cells true true false 1 (((l.take i).map f).map I64))], 1, 0⟩)))
    (Q := fun ex st => ∃ tm hp ct, st = ⟨tm, hp, ct, 0⟩ ∧ ex = .exit 0 ∧ ((l.length = 0 ∧ tget tm 5 = .nils) ∨ (0 < l.length ∧ tget tm 5 = .osl 0 0 l.length ∧ hget hp 0 = some (.cells true true false 1 ((l.map f).map I64))))) ?_
  · unfold Ans; rw [call_eq h]
    simp only [go_sem, Nat.reduceEqDiff, Nat.reduceAdd, Nat.reduceMul, Nat.reduceLT, Nat.reduceLeDiff, Nat.mul_one, c35, hv.len, hv.pu, hv.frz, hv.shut, hv.shut1, hv.res, hv.one, hv.cells]
    generalize hq : D P L (.loop [1, 5, 8, 9, 10] c35_0) _ = q
    obtain ⟨ex, st, rfl, tm, hp, ct, rfl, rfl, h2⟩ := of_key hq (key l.length) ⟨0, by omega, .inl ⟨rfl, by simp only [go_sem, Nat.reduceEqDiff, Nat.reduceAdd, Nat.reduceMul, Nat.reduceLT, Nat.reduceLeDiff, Nat.mul_one, compact0, refs_pure hv.pu, ren_pure _ hv.pu] <;> rfl⟩⟩
    rcases h2 with ⟨h2, h3⟩ | ⟨h2, h3, h4⟩
    · refine ⟨.nils, by simp only [go_sem, Nat.reduceEqDiff, Nat.reduceAdd, Nat.reduceMul, Nat.reduceLT, Nat.reduceLeDiff, Nat.mul_one, compact0, h3], ?_⟩
      rw [List.eq_nil_of_length_eq_zero h2]
      exact isL_nils
    · refine ⟨.fsl false 1 l.length ((l.map f).map I64), ?_, ?_⟩
      · simp only [go_sem, Nat.reduceEqDiff, Nat.reduceAdd, Nat.reduceMul, Nat.reduceLT, Nat.reduceLeDiff, Nat.mul_one, compact0, h3, h4]
        exact result_own (hget_hit _ _ _) (by simp) (by decide)
      · have := isI_vsl false (l.map f)
        rwa [List.length_map] at this
  · rintro k st ⟨i, hk, hst⟩
    by_cases hi : i < l.length
    · have hi' : (i : Int) < l.length := by omega
      left
      rcases hst with ⟨h0, rfl⟩ | ⟨h0, rfl⟩
      · subst h0
        simp only [go_sem, Nat.reduceEqDiff, Nat.reduceAdd, Nat.reduceMul, Nat.reduceLT, Nat.reduceLeDiff, Nat.mul_one, c35_0, hv.len, hv.pu, hv.frz, hv.shut, hv.shut1, hv.res, hv.one, hv.cells, show ((0 : Nat) : Int) < l.length from hi', hv.ixa hi, hg, app_nils]
        refine ⟨_, k - 1, rfl, by omega, 1, by omega, .inr ⟨by omega, ?_⟩⟩
        rw [wrap64 (by omega) (by omega), mapI_take hi]
        simp only [go_sem, Nat.reduceEqDiff, Nat.reduceAdd, Nat.reduceMul, Nat.reduceLT, Nat.reduceLeDiff, Nat.mul_one, compact0, refs_pure hv.pu, ren_pure _ hv.pu] <;> rfl
      · have hlen : (((l.take i).map f).map I64).length = i := by simp; omega
        simp only [go_sem, Nat.reduceEqDiff, Nat.reduceAdd, Nat.reduceMul, Nat.reduceLT, Nat.reduceLeDiff, Nat.mul_one, c35_0, hv.len, hv.pu, hv.frz, hv.shut, hv.shut1, hv.res, hv.one, hv.cells, hi', hv.ixa hi, hg]
        rw [app_own (ex := false) (pu := true) (cs := ((l.take i).map f).map I64) (by simp only [go_sem, Nat.reduceEqDiff, Nat.reduceAdd, Nat.reduceMul, Nat.reduceLT, Nat.reduceLeDiff, Nat.mul_one]) (by rw [hlen, Nat.mul_one]) (by omega) (by omega) (by decide) (by simp only [go_sem, Nat.reduceEqDiff, Nat.reduceAdd, Nat.reduceMul, Nat.reduceLT, Nat.reduceLeDiff, Nat.mul_one])]
        simp only [go_sem, Nat.reduceEqDiff, Nat.reduceAdd, Nat.reduceMul, Nat.reduceLT, Nat.reduceLeDiff, Nat.mul_one]
        refine ⟨_, k - 1, rfl, by omega, i + 1, by omega, .inr ⟨by omega, ?_⟩⟩
        rw [wrap64 (by omega) (by omega), mapI_take hi]
        simp only [go_sem, Nat.reduceEqDiff, Nat.reduceAdd, Nat.reduceMul, Nat.reduceLT, Nat.reduceLeDiff, Nat.mul_one, compact0, refs_pure hv.pu, ren_pure _ hv.pu] <;> rfl
    · right
      rcases hst with ⟨h0, rfl⟩ | ⟨h0, rfl⟩
      · simp only [go_sem, Nat.reduceEqDiff, Nat.reduceAdd, Nat.reduceMul, Nat.reduceLT, Nat.reduceLeDiff, Nat.mul_one, c35_0, show ¬ (i : Int) < l.length by omega]
        refine ⟨_, _, rfl, by simp, _, _, _, rfl, rfl, .inl ⟨by omega, ?_⟩⟩
        simp only [go_sem, Nat.reduceEqDiff, Nat.reduceAdd, Nat.reduceMul, Nat.reduceLT, Nat.reduceLeDiff, Nat.mul_one]
      · simp only [go_sem, Nat.reduceEqDiff, Nat.reduceAdd, Nat.reduceMul, Nat.reduceLT, Nat.reduceLeDiff, Nat.mul_one, c35_0, show ¬ (i : Int) < l.length by omega]
        refine ⟨_, _, rfl, by simp, _, _, _, rfl, rfl, .inr ⟨by omega, ?_, ?_⟩⟩
        · simp only [go_sem, Nat.reduceEqDiff, Nat.reduceAdd, Nat.reduceMul, Nat.reduceLT, Nat.reduceLeDiff, Nat.mul_one]
          rw [show i = l.length by omega]
        · simp only [go_sem, Nat.reduceEqDiff, Nat.reduceAdd, Nat.reduceMul, Nat.reduceLT, Nat.reduceLeDiff, Nat.mul_one]
          rw [List.take_of_length_le (by omega)]
end
end VE
end
