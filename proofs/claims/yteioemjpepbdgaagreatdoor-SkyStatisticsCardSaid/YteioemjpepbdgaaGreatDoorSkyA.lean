import Derived.Test.YteioemjpepbdgaaGreatDoorGo
import Derived.Test.YteioemjpepbdgaaGreatDoorLaws
import Derived.Test.YteioemjpepbdgaaGreatDoorCode
set_option linter.all false
section
set_option maxRecDepth 100000
namespace VE
open Go (IntKind)
section
variable {P : Prog} {L : Lib}
abbrev Ans (P : Prog) (L : Lib) (f : Nat) (vals : List AV) (r : AV) : Prop := callPure P L (D P L) f vals = some r
theorem s30 (h : Has P L 30 c30) (n lo hi : Int) : Ans P L 30 [I64 n, I64 lo, I64 hi] (I64 (if n < lo ∨ hi < n then 3 else 0)) := by
  unfold Ans; rw [call_eq h]
  by_cases h1 : n < lo
  · simp only [go_sem, Nat.reduceEqDiff, c30, h1, true_or, if_true]
  · by_cases h2 : hi < n
    · simp only [go_sem, Nat.reduceEqDiff, c30, h1, h2, or_true, if_true]
    · simp only [go_sem, Nat.reduceEqDiff, c30, h1, h2, or_self, if_false]
theorem s31 (h : Has P L 31 c31) (b : Bool) (n : Int) : Ans P L 31 [.bool b, I64 n] (I64 (if b = true then n else 0)) := by
  unfold Ans; rw [call_eq h]
  cases b with
  | true => simp only [go_sem, Nat.reduceEqDiff, c31, if_true]
  | false => simp only [go_sem, Nat.reduceEqDiff, c31]; rfl
theorem s34 (h : Has P L 34 c34) (h31 : Has P L 31 c31) (n lo hi : Int) : Ans P L 34 [I64 n, I64 lo, I64 hi] (I64 (if n < lo ∨ hi < n then 3 else 0)) := by
  unfold Ans; rw [call_eq h]
  by_cases h1 : n < lo
  · simp only [go_sem, Nat.reduceEqDiff, c34, h1, true_or, if_true, s31 h31]
  · by_cases h2 : hi < n
    · simp only [go_sem, Nat.reduceEqDiff, c34, h1, h2, or_true, if_true, s31 h31]
    · simp only [go_sem, Nat.reduceEqDiff, c34, h1, h2, or_self, if_false, s31 h31]; rfl
theorem s33 (h : Has P L 33 c33) {v : AV} {l : List Int} (hv : IsI v l) (hl : l.length ≤ 1000000) : Ans P L 33 [v] (I64 (firstI l)) := by
  unfold Ans; rw [call_eq h]
  simp only [go_sem, Nat.reduceEqDiff, c33, hv.len]
  have key := loop_ind (P := P) (L := L) (live := [5, 6, 7]) (a := c33_0)
    (I := fun k s => ∃ tm ct i, s = ⟨tm, [], ct, 0⟩ ∧ tget tm 5 = v ∧ tget tm 6 = I64 l.length ∧ tget tm 7 = I64 (i : Nat) ∧ i + k = l.length ∧ firstI (l.drop i) = firstI l)
    (Q := fun ex s => ∃ tm, s = ⟨tm, [], 0, 0⟩ ∧ ((ex = .ret ∧ tget tm 2 = I64 (firstI l)) ∨ (ex = .exit 0 ∧ firstI l = 0))) ?_ l.length
  · generalize hq : D P L (.loop [5, 6, 7] c33_0) _ = q
    obtain ⟨ex, s, rfl, tm, rfl, h2⟩ := of_key hq key ⟨_, _, 0, rfl, rfl, rfl, rfl, by omega, rfl⟩
    rcases h2 with ⟨rfl, h2⟩ | ⟨rfl, h2⟩
    · simp only [go_sem, h2]
    · rw [h2]; simp only [go_sem]
  · rintro k s ⟨tm, ct, i, rfl, h5, h6, h7, hk, hf⟩
    rw [compact_pure (by simp only [go_sem, h5, h6, h7, hv.pu])]
    simp only [go_sem, Nat.reduceEqDiff, h5, h6, h7, c33_0]
    by_cases hi : i < l.length
    · have hi' : (i : Int) < l.length := by omega
      rw [firstI_drop hi] at hf
      by_cases hz : l[i] = 0
      · left
        simp only [go_sem, Nat.reduceEqDiff, hi', hv.ixa hi, hz]
        refine ⟨_, k - 1, rfl, by omega, _, _, i + 1, rfl, ?_⟩
        rw [wrap64 (by omega) (by omega)]
        rw [if_pos hz] at hf
        simp only [go_sem, Nat.reduceEqDiff]
        exact ⟨trivial, trivial, rfl, by omega, hf⟩
      · right
        simp only [go_sem, Nat.reduceEqDiff, hi', hv.ixa hi, hz]
        rw [if_neg hz] at hf
        refine ⟨_, _, rfl, by simp, _, rfl, .inl ⟨rfl, ?_⟩⟩
        simp only [go_sem, hf]
    · right
      have hi' : ¬ (i : Int) < l.length := by omega
      simp only [go_sem, hi']
      refine ⟨_, _, rfl, by simp, _, rfl, .inr ⟨rfl, ?_⟩⟩
      rw [← hf, List.drop_eq_nil_of_le (by omega)]
      rfl
theorem s42 (h : Has P L 42 c42) {v : AV} {l : List Int} (hv : IsI v l) (hl : l.length ≤ 1000000) : Ans P L 42 [v] (I64 (firstI l)) := by
  unfold Ans; rw [call_eq h]
  simp only [go_sem, c42]
  have key := loop_ind (P := P) (L := L) (live := [0, 3]) (a := c42_0)
    (I := fun k s => ∃ tm ct i, s = ⟨tm, [], ct, 0⟩ ∧ tget tm 0 = v ∧ tget tm 3 = I64 (i : Nat) ∧ i + k = l.length ∧ firstI (l.drop i) = firstI l)
    (Q := fun ex s => ∃ tm, s = ⟨tm, [], 0, 0⟩ ∧ ((ex = .ret ∧ tget tm 2 = I64 (firstI l)) ∨ (ex = .exit 0 ∧ firstI l = 0))) ?_ l.length
  · generalize hq : D P L (.loop [0, 3] c42_0) _ = q
    obtain ⟨ex, s, rfl, tm, rfl, h2⟩ := of_key hq key ⟨_, _, 0, rfl, rfl, rfl, by omega, rfl⟩
    rcases h2 with ⟨rfl, h2⟩ | ⟨rfl, h2⟩
    · simp only [go_sem, h2]
    · rw [h2]; simp only [go_sem]
  · rintro k s ⟨tm, ct, i, rfl, h0, h3, hk, hf⟩
    rw [compact_pure (by simp only [go_sem, h0, h3, hv.pu])]
    simp only [go_sem, Nat.reduceEqDiff, h0, h3, c42_0, hv.len]
    by_cases hi : i < l.length
    · have hi' : (i : Int) < l.length := by omega
      rw [firstI_drop hi] at hf
      by_cases hz : l[i] = 0
      · left
        simp only [go_sem, Nat.reduceEqDiff, hi', hv.ixa hi, hz]
        refine ⟨_, k - 1, rfl, by omega, _, _, i + 1, rfl, ?_⟩
        rw [wrap64 (by omega) (by omega)]
        rw [if_pos hz] at hf
        simp only [go_sem, Nat.reduceEqDiff]
        exact ⟨trivial, rfl, by omega, hf⟩
      · right
        simp only [go_sem, Nat.reduceEqDiff, hi', hv.ixa hi, hz]
        rw [if_neg hz] at hf
        refine ⟨_, _, rfl, by simp, _, rfl, .inl ⟨rfl, ?_⟩⟩
        simp only [go_sem, hf]
    · right
      have hi' : ¬ (i : Int) < l.length := by omega
      simp only [go_sem, hi']
      refine ⟨_, _, rfl, by simp, _, rfl, .inr ⟨rfl, ?_⟩⟩
      rw [← hf, List.drop_eq_nil_of_le (by omega)]
      rfl
theorem s11 (h : Has P L 11 c11) (h42 : Has P L 42 c42) {v : AV} {l : List Int} (hv : IsI v l) (hl : l.length ≤ 1000000) : Ans P L 11 [v] (I64 (firstI l)) := by
  unfold Ans; rw [call_eq h]
  simp only [go_sem, Nat.reduceEqDiff, c11, hv.frz, s42 h42 hv hl]
theorem s134 (h : Has P L 134 c134) {n m : Int} (hm : 0 < m) (hm' : m ≤ 1000000) : Ans P L 134 [I64 n, I64 m] (I64 (n % m)) := by
  unfold Ans; rw [call_eq h]
  have h1 : m ≠ 0 := by omega
  have h2 : n.tmod m < m := Int.tmod_lt_of_pos n hm
  have h3 : -m < n.tmod m := by
    have h := Int.lt_tmod_of_pos n hm
    omega
  simp only [go_sem, Nat.reduceEqDiff, c134, bin_rem _ _ _ h1, wrap64 (n := n.tmod m + m) (by omega) (by omega), tmod_up hm]
end
end VE
end
section
set_option maxRecDepth 100000
namespace VE
open Go (IntKind)
section
variable {P : Prog} {L : Lib}
theorem any_drop {α : Type} {p : α → Bool} {l : List α} {i : Nat} (h : i < l.length) : (l.drop i).any p = (p l[i] || (l.drop (i + 1)).any p) := by
  rw [List.drop_eq_getElem_cons h, List.any_cons]
theorem s132 (h : Has P L 132 c132) {v : AV} {l : List Int} (hv : IsI v l) (hl : l.length ≤ 1000000) {g : Nat} {cap : List AV} {p : Int → Bool} (hc : pureL cap = true)
    (hz : ∀ x hp, freezeL deep hp (I64 x :: cap) = some (I64 x :: cap, hp)) (hg : ∀ x, Ans P L g (I64 x :: cap) (.bool (p x))) : ∃ n : Int, Ans P L 132 [v, .fn (.f g) [] cap] (I64 n) ∧ decide (0 ≤ n) = l.any p := by
  have hpf : pureAV (.fn (.f g) [] cap) = true := by simp [pureAV, pureL, hc]
  simp only [Ans, deep] at hg hz
  have key := loop_ind (P := P) (L := L) (live := [0, 1, 7, 8]) (a := c132_0)
    (I := fun k s => ∃ tm ct i, s = ⟨tm, [], ct, 0⟩ ∧ tget tm 0 = v ∧ tget tm 1 = .fn (.f g) [] cap ∧ tget tm 7 = I64 l.length ∧ tget tm 8 = I64 (i : Nat) ∧ i + k = l.length ∧ (l.drop i).any p = l.any p)
    (Q := fun ex s => ∃ tm, s = ⟨tm, [], 0, 0⟩ ∧ ((∃ n : Int, ex = .ret ∧ tget tm 4 = I64 n ∧ 0 ≤ n ∧ l.any p = true) ∨ (ex = .exit 0 ∧ l.any p = false))) ?_ l.length
  · simp only [Ans]
    rw [call_eq h]
    simp only [go_sem, Nat.reduceEqDiff, c132, hv.len]
    generalize hq : D P L (.loop [0, 1, 7, 8] c132_0) _ = q
    obtain ⟨ex, s, rfl, tm, rfl, h2⟩ := of_key hq key ⟨_, _, 0, rfl, rfl, rfl, rfl, rfl, by omega, rfl⟩
    rcases h2 with ⟨n, rfl, h2, h3, h4⟩ | ⟨rfl, h2⟩
    · exact ⟨n, by simp only [go_sem, h2], by rw [h4]; simpa using h3⟩
    · exact ⟨-1, by simp only [go_sem], by rw [h2]; decide⟩
  · rintro k s ⟨tm, ct, i, rfl, h0, h1, h7, h8, hk, hf⟩
    rw [compact_pure (by simp only [go_sem, h0, h1, h7, h8, hv.pu, hpf])]
    simp only [go_sem, Nat.reduceEqDiff, h0, h1, h7, h8, c132_0]
    by_cases hi : i < l.length
    · have hi' : (i : Int) < l.length := by omega
      rw [any_drop hi] at hf
      cases hz' : p l[i] with
      | false =>
        left
        simp only [go_sem, Nat.reduceEqDiff, hi', hv.ixa hi, hz, hg, hz']
        refine ⟨_, k - 1, rfl, by omega, _, _, i + 1, rfl, ?_⟩
        rw [wrap64 (by omega) (by omega)]
        rw [hz', Bool.false_or] at hf
        simp only [go_sem, Nat.reduceEqDiff]
        exact ⟨trivial, trivial, trivial, rfl, by omega, hf⟩
      | true =>
        right
        simp only [go_sem, Nat.reduceEqDiff, hi', hv.ixa hi, hz, hg, hz']
        refine ⟨_, _, rfl, by simp, _, rfl, .inl ⟨i, rfl, ?_, by omega, ?_⟩⟩
        · simp only [go_sem]
        · rw [← hf, hz', Bool.true_or]
    · right
      have hi' : ¬ (i : Int) < l.length := by omega
      simp only [go_sem, hi']
      refine ⟨_, _, rfl, by simp, _, rfl, .inr ⟨rfl, ?_⟩⟩
      rw [← hf, List.drop_eq_nil_of_le (by omega)]
      rfl
theorem s95 (h : Has P L 95 c95) (h132 : Has P L 132 c132) {v : AV} {l : List Int} (hv : IsI v l) (hl : l.length ≤ 1000000) {g : Nat} {cap : List AV} {p : Int → Bool} (hc : pureL cap = true)
    (hz : ∀ x hp, freezeL deep hp (I64 x :: cap) = some (I64 x :: cap, hp)) (hg : ∀ x, Ans P L g (I64 x :: cap) (.bool (p x)))
    (hz2 : ∀ n hp, freeze (n + 500) hp (.fn (.f g) [] cap) = some (.fn (.f g) [] cap, hp)) : Ans P L 95 [v, .fn (.f g) [] cap] (.bool (l.any p)) := by
  obtain ⟨n, h1, h2⟩ := s132 h132 hv hl hc hz hg
  unfold Ans at h1 ⊢
  rw [call_eq h]
  have hz2' : ∀ hp, freeze 998 hp (.fn (.f g) [] cap) = some (.fn (.f g) [] cap, hp) := fun hp => hz2 498 hp
  simp only [go_sem, Nat.reduceEqDiff, c95, hv.frz, hz2', h1, h2]
theorem s94 (h : Has P L 94 c94) {m : Int} (hm : 0 ≤ m) (hm' : m ≤ 1000000) (x : Int) : Ans P L 94 [I64 x, .vptr [I64 m]] (.bool (decide (x < -m ∨ m < x))) := by
  unfold Ans; rw [call_eq h]
  by_cases h1 : x < -m
  · simp only [go_sem, Nat.reduceEqDiff, c94, ld_vptr1, wrap64 (n := 0 - m) (by omega) (by omega), show x < 0 - m by omega, h1, true_or]
  · by_cases h2 : m < x
    · simp only [go_sem, Nat.reduceEqDiff, c94, ld_vptr1, wrap64 (n := 0 - m) (by omega) (by omega), show ¬ x < 0 - m by omega, h1, h2, or_true]
    · simp only [go_sem, Nat.reduceEqDiff, c94, ld_vptr1, wrap64 (n := 0 - m) (by omega) (by omega), show ¬ x < 0 - m by omega, h1, h2, or_self]
theorem outI_any (m : Int) (l : List Int) : l.any (fun x => decide (x < -m ∨ m < x)) = outI (-m) m l := by
  induction l with
  | nil => rfl
  | cons a r ih =>
    simp only [List.any_cons, outI, ih]
    by_cases h : a < -m ∨ m < a
    · simp [h]
    · simp [h]
structure Sq (P : Prog) (L : Lib) : Prop where
  h32 : Has P L 32 c32
  h31 : Has P L 31 c31
  h33 : Has P L 33 c33
  h94 : Has P L 94 c94
  h95 : Has P L 95 c95
  h132 : Has P L 132 c132
  h4 : Has P L 4 c4
  h9 : Has P L 9 c9
theorem s32 (h : Sq P L) {v : AV} {s : List (List Int)} (hv : IsS v s) (hl : s.length ≤ 1000000) (hr : ∀ i (hi : i < s.length), s[i].length ≤ 1000000) {m : Int} (hm : 0 ≤ m) (hm' : m ≤ 1000000) :
    Ans P L 32 [v, I64 m] (I64 (sqChk s.length (-m) m s)) := by
  have key := loop_can (P := P) (L := L) (live := [0, 3, 9, 10, 11]) (a := c32_0)
    (I := fun k st => ∃ (i : Nat) (rw : Bool), st = ⟨[(0, v), (3, .ptr 0 0), (9, v), (10, I64 s.length), (11, I64 i)], [(0, .cells rw true true 1 [I64 m])], 1, 0⟩ ∧ i + k = s.length ∧ sqChk s.length (-m) m (s.drop i) = sqChk s.length (-m) m s)
    (Q := fun ex st => ∃ tm hp ct, st = ⟨tm, hp, ct, 0⟩ ∧ ((ex = .ret ∧ tget tm 4 = I64 (sqChk s.length (-m) m s)) ∨ (ex = .exit 0 ∧ sqChk s.length (-m) m s = 0))) ?_
  · unfold Ans; rw [call_eq h.h32]
    simp only [go_sem, Nat.reduceEqDiff, Nat.reduceAdd, c32, hv.len]
    generalize hq : D P L (.loop [0, 3, 9, 10, 11] c32_0) _ = q
    obtain ⟨ex, st, rfl, tm, hp, ct, rfl, h2⟩ := of_key hq (key s.length) ⟨0, true, by simp only [go_sem, Nat.reduceEqDiff, Nat.reduceAdd, compact0, refs_pure hv.pu, ren_pure _ hv.pu] <;> rfl, by omega, rfl⟩
    rcases h2 with ⟨rfl, h2⟩ | ⟨rfl, h2⟩
    · simp only [go_sem, h2]
    · rw [h2]; simp only [go_sem, compact0]
  · rintro k st ⟨i, rw, rfl, hk, hf⟩
    simp only [go_sem, Nat.reduceEqDiff, c32_0]
    by_cases hi : i < s.length
    · have hi' : (i : Int) < s.length := by omega
      rw [sqChk_drop hi] at hf
      obtain ⟨r, rest, hr1, hr2⟩ := hv.ixa hi
      have hc : Ans P L 95 [r, .fn (.f 94) [] [.vptr [I64 m]]] (.bool (outI (-m) m s[i])) := by
        rw [← outI_any]
        exact s95 h.h95 h.h132 hr1 (hr i hi) rfl (fun x hp => by simp only [go_sem]) (fun x => s94 h.h94 hm hm' x) (fun n hp => by simp only [go_sem])
      have hf2 : ∀ a b : Int, Ans P L 33 [.vsl true 2 [.int .i64 a, .int .i64 b]] (I64 (firstI [a, b])) := fun a b => s33 h.h33 (isI_vsl true [a, b]) (by simp)
      unfold Ans at hc hf2
      by_cases h1 : s[i].length = s.length
      · have h1' : (s[i].length : Int) = s.length := by omega
        simp only [h1, ne_eq, not_true_eq_false, if_false] at hf
        cases h2 : outI (-m) m s[i] with
        | false =>
          left
          simp only [h2, Bool.false_eq_true, if_false] at hf
          cases rw <;> simp only [go_sem, Nat.reduceEqDiff, Nat.reduceAdd, Nat.reduceLT, Nat.reduceLeDiff, Nat.mul_one, hi', hr2, hc, h1', h2, s31 h.h31, hf2, hr1.len, hr1.frz, hv.len, Bool.false_eq_true, if_false, firstI, if_true]
          all_goals
            refine ⟨_, k - 1, rfl, by omega, i + 1, false, ?_, by omega, hf⟩
            rw [wrap64 (by omega) (by omega)]
            simp only [go_sem, Nat.reduceEqDiff, Nat.reduceAdd, compact0, refs_pure hv.pu, ren_pure _ hv.pu]
            rfl
        | true =>
          right
          simp only [h2, if_true] at hf
          cases rw <;> simp only [go_sem, Nat.reduceEqDiff, Nat.reduceAdd, Nat.reduceLT, Nat.reduceLeDiff, Nat.mul_one, hi', hr2, hc, h1', h2, s31 h.h31, hf2, hr1.len, hr1.frz, hv.len, Bool.false_eq_true, if_false, firstI, if_true, Int.reduceEq]
          all_goals
            refine ⟨_, _, rfl, by simp, _, _, _, rfl, .inl ⟨rfl, ?_⟩⟩
            simp only [go_sem, hf]
      · right
        have h1' : ¬ (s[i].length : Int) = s.length := by omega
        simp only [h1, ne_eq, not_false_eq_true, if_true] at hf
        cases h2 : outI (-m) m s[i] <;> cases rw <;> simp only [go_sem, Nat.reduceEqDiff, Nat.reduceAdd, Nat.reduceLT, Nat.reduceLeDiff, Nat.mul_one, hi', hr2, hc, h1', h2, s31 h.h31, hf2, hr1.len, hr1.frz, hv.len, Bool.false_eq_true, if_false, firstI, if_true, Int.reduceEq]
        all_goals
          refine ⟨_, _, rfl, by simp, _, _, _, rfl, .inl ⟨rfl, ?_⟩⟩
          simp only [go_sem, hf]
    · right
      have hi' : ¬ (i : Int) < s.length := by omega
      simp only [go_sem, hi']
      refine ⟨_, _, rfl, by simp, _, _, _, rfl, .inr ⟨rfl, ?_⟩⟩
      rw [← hf, List.drop_eq_nil_of_le (by omega)]
      rfl
end
end VE
end
section
set_option maxRecDepth 100000
namespace VE
open Go (IntKind)
section
variable {P : Prog} {L : Lib}
theorem s2 (h : Has P L 2 c2) {v : AV} {s : List (List Int)} (hv : IsS v s) {n : Nat} : Ans P L 2 [v, I64 n] (.bool (shortS n s)) := by
  have key := loop_can (P := P) (L := L) (live := [0, 5]) (a := c2_0)
    (I := fun k st => ∃ i : Nat, st = ⟨[(0, v), (5, I64 i)], [], 0, 0⟩ ∧ i + k = s.length ∧ s.length ≤ 18 ∧ rowsShort (s.drop i) = rowsShort s)
    (Q := fun ex st => ∃ tm ct, st = ⟨tm, [], ct, 0⟩ ∧ ((ex = .ret ∧ tget tm 4 = .bool (rowsShort s)) ∨ (ex = .exit 0 ∧ rowsShort s = true))) ?_
  · unfold Ans; rw [call_eq h]
    unfold shortS
    by_cases h1 : n < s.length
    · by_cases h2 : s.length ≤ 16
      · simp only [go_sem, Nat.reduceEqDiff, c2, hv.len, show (n : Int) < s.length by omega, show (s.length : Int) ≤ 16 by omega]
        rw [if_pos (by omega)]
      · by_cases h3 : 18 < s.length
        · simp only [go_sem, Nat.reduceEqDiff, c2, hv.len, show (n : Int) < s.length by omega, show ¬ (s.length : Int) ≤ 16 by omega, show (18 : Int) < s.length by omega]
          rw [if_pos (by omega)]
        · simp only [go_sem, Nat.reduceEqDiff, c2, hv.len, show (n : Int) < s.length by omega, show ¬ (s.length : Int) ≤ 16 by omega, show ¬ (18 : Int) < s.length by omega]
          rw [if_neg (by omega)]
          generalize hq : D P L (.loop [0, 5] c2_0) _ = q
          obtain ⟨ex, st, rfl, tm, ct, rfl, h2⟩ := of_key hq (key s.length) ⟨0, by simp only [go_sem, Nat.reduceEqDiff, compact0, refs_pure hv.pu, ren_pure _ hv.pu] <;> rfl, by omega, by omega, rfl⟩
          rcases h2 with ⟨rfl, h2⟩ | ⟨rfl, h2⟩
          · simp only [go_sem, h2]
          · rw [h2]; simp only [go_sem]
    · by_cases h3 : 18 < s.length
      · simp only [go_sem, Nat.reduceEqDiff, c2, hv.len, show ¬ (n : Int) < s.length by omega, show (18 : Int) < s.length by omega]
        rw [if_pos (by omega)]
      · simp only [go_sem, Nat.reduceEqDiff, c2, hv.len, show ¬ (n : Int) < s.length by omega, show ¬ (18 : Int) < s.length by omega]
        rw [if_neg (by omega)]
        generalize hq : D P L (.loop [0, 5] c2_0) _ = q
        obtain ⟨ex, st, rfl, tm, ct, rfl, h2⟩ := of_key hq (key s.length) ⟨0, by simp only [go_sem, Nat.reduceEqDiff, compact0, refs_pure hv.pu, ren_pure _ hv.pu] <;> rfl, by omega, by omega, rfl⟩
        rcases h2 with ⟨rfl, h2⟩ | ⟨rfl, h2⟩
        · simp only [go_sem, h2]
        · rw [h2]; simp only [go_sem]
  · rintro k st ⟨i, rfl, hk, hl, hf⟩
    simp only [go_sem, Nat.reduceEqDiff, c2_0, hv.len]
    by_cases hi : i < s.length
    · have hi' : (i : Int) < s.length := by omega
      rw [rowsShort_drop hi] at hf
      obtain ⟨r, rest, hr1, hr2⟩ := hv.ixa hi
      by_cases h1 : 18 < s[i].length
      · right
        rw [if_pos h1] at hf
        simp only [go_sem, Nat.reduceEqDiff, hi', hr2, hr1.len, show (18 : Int) < s[i].length by omega]
        refine ⟨_, _, rfl, by simp, _, _, rfl, .inl ⟨rfl, ?_⟩⟩
        simp only [go_sem, ← hf]
      · left
        rw [if_neg h1] at hf
        simp only [go_sem, Nat.reduceEqDiff, hi', hr2, hr1.len, show ¬ (18 : Int) < s[i].length by omega]
        refine ⟨_, k - 1, rfl, by omega, i + 1, ?_, by omega, hl, hf⟩
        rw [wrap64 (by omega) (by omega)]
        simp only [go_sem, Nat.reduceEqDiff, compact0, refs_pure hv.pu, ren_pure _ hv.pu] <;> rfl
    · right
      simp only [go_sem, show ¬ (i : Int) < s.length by omega]
      refine ⟨_, _, rfl, by simp, _, _, rfl, .inr ⟨rfl, ?_⟩⟩
      rw [← hf, List.drop_eq_nil_of_le (by omega)]
      rfl
theorem s59 (h : Has P L 59 c59) {v w : AV} {l m : List Int} (hv : IsI v l) (hw : IsI w m) (hl : l.length ≤ 1000000) (he : l = m) : Ans P L 59 [v, w] (.bool true) := by
  subst he
  have key := loop_can (P := P) (L := L) (live := [0, 1, 5]) (a := c59_0)
    (I := fun k st => ∃ i : Nat, st = ⟨[(0, v), (1, w), (5, I64 i)], [], 0, 0⟩ ∧ i + k = l.length)
    (Q := fun ex st => ∃ tm ct, st = ⟨tm, [], ct, 0⟩ ∧ ex = .exit 0) ?_
  · unfold Ans; rw [call_eq h]
    simp only [go_sem, Nat.reduceEqDiff, c59, hv.len, hw.len]
    generalize hq : D P L (.loop [0, 1, 5] c59_0) _ = q
    obtain ⟨ex, st, rfl, tm, ct, rfl, rfl⟩ := of_key hq (key l.length) ⟨0, by simp only [go_sem, Nat.reduceEqDiff, compact0, refs_pure hv.pu, ren_pure _ hv.pu, refs_pure hw.pu, ren_pure _ hw.pu] <;> rfl, by omega⟩
    simp only [go_sem]
  · rintro k st ⟨i, rfl, hk⟩
    simp only [go_sem, Nat.reduceEqDiff, c59_0, hv.len]
    by_cases hi : i < l.length
    · have hi' : (i : Int) < l.length := by omega
      left
      simp only [go_sem, Nat.reduceEqDiff, hi', hv.ixa hi, hw.ixa hi]
      refine ⟨_, k - 1, rfl, by omega, i + 1, ?_, by omega⟩
      rw [wrap64 (by omega) (by omega)]
      simp only [go_sem, Nat.reduceEqDiff, compact0, refs_pure hv.pu, ren_pure _ hv.pu, refs_pure hw.pu, ren_pure _ hw.pu] <;> rfl
    · right
      simp only [go_sem, show ¬ (i : Int) < l.length by omega]
      exact ⟨_, _, rfl, by simp, _, _, rfl, rfl⟩
theorem s21 (h : Has P L 21 c21) (h59 : Has P L 59 c59) {v w : AV} {s t : List (List Int)} (hv : IsS v s) (hw : IsS w t) (hl : s.length ≤ 1000000) (hr : ∀ i (hi : i < s.length), s[i].length ≤ 1000000) (he : s = t) : Ans P L 21 [v, w] (.bool true) := by
  subst he
  have key := loop_can (P := P) (L := L) (live := [0, 1, 5]) (a := c21_0)
    (I := fun k st => ∃ i : Nat, st = ⟨[(0, v), (1, w), (5, I64 i)], [], 0, 0⟩ ∧ i + k = s.length)
    (Q := fun ex st => ∃ tm ct, st = ⟨tm, [], ct, 0⟩ ∧ ex = .exit 0) ?_
  · unfold Ans; rw [call_eq h]
    simp only [go_sem, Nat.reduceEqDiff, c21, hv.len, hw.len]
    generalize hq : D P L (.loop [0, 1, 5] c21_0) _ = q
    obtain ⟨ex, st, rfl, tm, ct, rfl, rfl⟩ := of_key hq (key s.length) ⟨0, by simp only [go_sem, Nat.reduceEqDiff, compact0, refs_pure hv.pu, ren_pure _ hv.pu, refs_pure hw.pu, ren_pure _ hw.pu] <;> rfl, by omega⟩
    simp only [go_sem]
  · rintro k st ⟨i, rfl, hk⟩
    simp only [go_sem, Nat.reduceEqDiff, c21_0, hv.len]
    by_cases hi : i < s.length
    · have hi' : (i : Int) < s.length := by omega
      obtain ⟨r, rest, hr1, hr2⟩ := hv.ixa hi
      obtain ⟨q, rest', hq1, hq2⟩ := hw.ixa hi
      have hc := s59 h59 hr1 hq1 (hr i hi) rfl
      unfold Ans at hc
      left
      simp only [go_sem, Nat.reduceEqDiff, hi', hr2, hq2, hr1.frz, hq1.frz, hc]
      refine ⟨_, k - 1, rfl, by omega, i + 1, ?_, by omega⟩
      rw [wrap64 (by omega) (by omega)]
      simp only [go_sem, Nat.reduceEqDiff, compact0, refs_pure hv.pu, ren_pure _ hv.pu, refs_pure hw.pu, ren_pure _ hw.pu] <;> rfl
    · right
      simp only [go_sem, show ¬ (i : Int) < s.length by omega]
      exact ⟨_, _, rfl, by simp, _, _, rfl, rfl⟩
theorem s7e (h : Has P L 7 c7) {e : Int} (he : e ≠ 0) : Ans P L 7 [.nils, I64 e, I64 e, .nils] (.bool true) := by
  unfold Ans; rw [call_eq h]
  simp only [go_sem, Nat.reduceEqDiff, c7, he]
theorem s7s (h : Has P L 7 c7) (h21 : Has P L 21 c21) (h59 : Has P L 59 c59) {v w : AV} {s : List (List Int)} (hv : IsS v s) (hw : IsS w s) (hl : s.length ≤ 1000000) (hr : ∀ i (hi : i < s.length), s[i].length ≤ 1000000) : Ans P L 7 [v, I64 0, I64 0, w] (.bool true) := by
  have hc := s21 h21 h59 hv hw hl hr rfl
  unfold Ans at hc ⊢; rw [call_eq h]
  simp only [go_sem, Nat.reduceEqDiff, c7, hv.frz, hw.frz, hc]
theorem s4 (h : Sq P L) {v : AV} {s : List (List Int)} (hv : IsS v s) (hl : s.length ≤ 1000000) (hr : ∀ i (hi : i < s.length), s[i].length ≤ 1000000) : Ans P L 4 [v] (I64 (chkScreen s)) := by
  have hc := s32 h hv hl hr (m := 1000) (by decide) (by decide)
  have hf : ∀ a b c : Int, Ans P L 33 [.vsl true 3 [.int .i64 a, .int .i64 b, .int .i64 c]] (I64 (firstI [a, b, c])) := fun a b c => s33 h.h33 (isI_vsl true [a, b, c]) (by simp)
  unfold Ans at hc hf ⊢; rw [call_eq h.h4]
  simp only [go_sem, Nat.reduceEqDiff, Nat.reduceAdd, Nat.reduceLT, Nat.reduceLeDiff, Nat.mul_one, c4, hv.len, hv.frz, hc, s31 h.h31, hf]
  congr 2
  unfold chkScreen
  by_cases h1 : s.length = 0
  · simp [h1, firstI]
  · by_cases h2 : 16 < s.length
    · simp [h1, h2, firstI, show (16 : Int) < s.length by omega]
    · simp only [h1, h2, firstI, show ¬ (16 : Int) < s.length by omega, show ¬ (s.length : Int) = 0 by omega, decide_false, Bool.false_eq_true, if_false, if_true]
      split <;> simp_all
end
end VE
end
section
set_option maxRecDepth 100000
namespace VE
open Go (IntKind)
section
variable {P : Prog} {L : Lib}
theorem s3 (h : Has P L 3 c3) (h30 : Has P L 30 c30) {v : AV} {s : List (List Int)} (hv : IsS v s) : Ans P L 3 [v] (I64 (chkScreen s)) := by
  have inner : ∀ {i : Nat} (hi : i < s.length), s[i].length = s.length → s.length ≤ 16 → ∀ k st, (∃ j : Nat, compact [0, 3, 4] st = ⟨[(0, v), (3, I64 i), (4, I64 j)], [], 0, 0⟩ ∧ j + k = s.length ∧ outI (-1000) 1000 (s[i].drop j) = outI (-1000) 1000 s[i]) →
      ∃ ex st', D P L (.loop [0, 3, 4] c3_0) st = some (ex, st') ∧ ∃ tm ct, st' = ⟨tm, [], ct, 0⟩ ∧ ((ex = .ret ∧ tget tm 2 = I64 3 ∧ outI (-1000) 1000 s[i] = true) ∨ (ex = .exit 2 ∧ tget tm 0 = v ∧ tget tm 3 = I64 i ∧ outI (-1000) 1000 s[i] = false)) := by
    intro i hi hr hl
    refine loop_can (I := fun k st => ∃ j : Nat, st = ⟨[(0, v), (3, I64 i), (4, I64 j)], [], 0, 0⟩ ∧ j + k = s.length ∧ outI (-1000) 1000 (s[i].drop j) = outI (-1000) 1000 s[i])
      (Q := fun ex st => ∃ tm ct, st = ⟨tm, [], ct, 0⟩ ∧ ((ex = .ret ∧ tget tm 2 = I64 3 ∧ outI (-1000) 1000 s[i] = true) ∨ (ex = .exit 2 ∧ tget tm 0 = v ∧ tget tm 3 = I64 i ∧ outI (-1000) 1000 s[i] = false))) ?_
    rintro k st ⟨j, rfl, hk, hf⟩
    simp only [go_sem, Nat.reduceEqDiff, c3_0, hv.len]
    obtain ⟨r, rest, hr1, hr2⟩ := hv.ixa hi
    by_cases hj : j < s.length
    · have hj' : (j : Int) < s.length := by omega
      have hjr : j < s[i].length := by omega
      rw [outI_drop hjr] at hf
      by_cases h1 : s[i][j] < -1000 ∨ 1000 < s[i][j]
      · right
        rw [if_pos h1] at hf
        simp only [go_sem, Nat.reduceEqDiff, hj', hr2, hr1.ixa hjr, s30 h30, h1, if_true, Int.reduceEq]
        refine ⟨_, _, rfl, by simp, _, _, rfl, .inl ⟨rfl, ?_, hf.symm⟩⟩
        simp only [go_sem]
      · left
        rw [if_neg h1] at hf
        simp only [go_sem, Nat.reduceEqDiff, hj', hr2, hr1.ixa hjr, s30 h30, h1, if_false]
        refine ⟨_, k - 1, rfl, by omega, j + 1, ?_, by omega, hf⟩
        rw [wrap64 (by omega) (by omega)]
        simp only [go_sem, Nat.reduceEqDiff, compact0, refs_pure hv.pu, ren_pure _ hv.pu] <;> rfl
    · right
      simp only [go_sem, show ¬ (j : Int) < s.length by omega]
      refine ⟨_, _, rfl, by simp, _, _, rfl, .inr ⟨rfl, ?_, ?_, ?_⟩⟩
      · simp only [go_sem, Nat.reduceEqDiff]
      · simp only [go_sem, Nat.reduceEqDiff]
      · rw [← hf, List.drop_eq_nil_of_le (by omega)]; rfl
  have key := loop_can (P := P) (L := L) (live := [0, 3]) (a := c3_1)
    (I := fun k st => ∃ i : Nat, st = ⟨[(0, v), (3, I64 i)], [], 0, 0⟩ ∧ i + k = s.length ∧ s.length ≤ 16 ∧ sqChk s.length (-1000) 1000 (s.drop i) = sqChk s.length (-1000) 1000 s)
    (Q := fun ex st => ∃ tm ct, st = ⟨tm, [], ct, 0⟩ ∧ ((ex = .ret ∧ tget tm 2 = I64 (sqChk s.length (-1000) 1000 s)) ∨ (ex = .exit 0 ∧ sqChk s.length (-1000) 1000 s = 0))) ?_
  · unfold Ans; rw [call_eq h]
    unfold chkScreen
    by_cases h1 : s.length = 0
    · simp only [go_sem, Nat.reduceEqDiff, c3, hv.len, show (s.length : Int) = 0 by omega]; rw [if_pos h1]
    · rw [if_neg h1]
      by_cases h2 : 16 < s.length
      · simp only [go_sem, Nat.reduceEqDiff, c3, hv.len, show ¬ (s.length : Int) = 0 by omega, show (16 : Int) < s.length by omega]; rw [if_pos h2]
      · simp only [go_sem, Nat.reduceEqDiff, c3, hv.len, show ¬ (s.length : Int) = 0 by omega, show ¬ (16 : Int) < s.length by omega]
        rw [if_neg h2]
        generalize hq : D P L (.loop [0, 3] c3_1) _ = q
        obtain ⟨ex, st, rfl, tm, ct, rfl, h2⟩ := of_key hq (key s.length) ⟨0, by simp only [go_sem, Nat.reduceEqDiff, compact0, refs_pure hv.pu, ren_pure _ hv.pu] <;> rfl, by omega, by omega, rfl⟩
        rcases h2 with ⟨rfl, h2⟩ | ⟨rfl, h2⟩
        · simp only [go_sem, h2]
        · rw [h2]; simp only [go_sem]
  · rintro k st ⟨i, rfl, hk, hl, hf⟩
    simp only [go_sem, Nat.reduceEqDiff, c3_1, hv.len]
    by_cases hi : i < s.length
    · have hi' : (i : Int) < s.length := by omega
      rw [sqChk_drop hi] at hf
      obtain ⟨r, rest, hr1, hr2⟩ := hv.ixa hi
      by_cases h1 : s[i].length = s.length
      · simp only [h1, ne_eq, not_true_eq_false, if_false] at hf
        simp only [go_sem, Nat.reduceEqDiff, hi', hr2, hr1.len, hv.len, show (s[i].length : Int) = s.length by omega]
        generalize hq : D P L (.loop [0, 3, 4] c3_0) _ = q
        obtain ⟨ex, st, rfl, tm, ct, rfl, h2⟩ := of_key hq (inner hi h1 hl s.length) ⟨0, by simp only [go_sem, Nat.reduceEqDiff, compact0, refs_pure hv.pu, ren_pure _ hv.pu] <;> rfl, by omega, rfl⟩
        rcases h2 with ⟨rfl, h2, h3⟩ | ⟨rfl, h2, h3, h4⟩
        · right
          rw [if_pos h3] at hf
          exact ⟨_, _, rfl, by simp, _, _, rfl, .inl ⟨rfl, by rw [h2, ← hf]⟩⟩
        · left
          rw [if_neg (by simp [h4])] at hf
          simp only [go_sem, Nat.reduceEqDiff, compact0, h2, h3, refs_pure hv.pu, ren_pure _ hv.pu]
          refine ⟨_, k - 1, rfl, by omega, i + 1, ?_, by omega, hl, hf⟩
          rw [wrap64 (by omega) (by omega)]
          simp only [go_sem, Nat.reduceEqDiff, compact0, refs_pure hv.pu, ren_pure _ hv.pu] <;> rfl
      · right
        simp only [h1, ne_eq, not_false_eq_true, if_true] at hf
        simp only [go_sem, Nat.reduceEqDiff, hi', hr2, hr1.len, hv.len, show ¬ (s[i].length : Int) = s.length by omega]
        refine ⟨_, _, rfl, by simp, _, _, rfl, .inl ⟨rfl, ?_⟩⟩
        simp only [go_sem, ← hf]
    · right
      simp only [go_sem, show ¬ (i : Int) < s.length by omega]
      refine ⟨_, _, rfl, by simp, _, _, rfl, .inr ⟨rfl, ?_⟩⟩
      rw [← hf, List.drop_eq_nil_of_le (by omega)]
      rfl
end
end VE
end
