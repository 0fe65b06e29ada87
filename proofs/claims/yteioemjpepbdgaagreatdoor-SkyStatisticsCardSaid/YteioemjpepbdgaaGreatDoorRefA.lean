import Derived.Test.YteioemjpepbdgaaGreatDoorDigits
import Derived.Test.YteioemjpepbdgaaGreatDoorNumA
import Derived.Test.YteioemjpepbdgaaGreatDoorCodeQ
set_option linter.all false
section
set_option maxRecDepth 100000
namespace VE
open Go (IntKind)
def cutR (s : List Nat) (l h : Option Nat) : Option AV :=
  match l, h with
  | some l, some h => bif Nat.ble l h && Nat.ble h s.length then some (.str ((s.take h).drop l)) else none
  | _, _ => none
theorem cut_str (hp : Hp) (s : List Nat) (tm : Env) (lo hi : Option X) : cutOp hp .str (.str s) tm lo hi = cutR s (bound tm 0 lo) (bound tm s.length hi) := by
  unfold cutR
  simp only [cutOp]
  cases bound tm 0 lo <;> cases bound tm s.length hi <;> rfl
theorem bound_n (tm : Env) (d : Nat) : bound tm d none = some d := rfl
theorem bound_s (tm : Env) (d : Nat) (x : X) : bound tm d (some x) = asNat (xget tm x) := rfl
theorem cutR_ok {s : List Nat} {l h : Nat} (h1 : l ≤ h) (h2 : h ≤ s.length) : cutR s (some l) (some h) = some (.str ((s.take h).drop l)) := by
  simp [cutR, Nat.ble_eq_true_of_le h1, Nat.ble_eq_true_of_le h2]
theorem str_add {a b : List Nat} (h : a.length + b.length ≤ 9223372036854775807) : binOp .add (.str a) (.str b) = some (.str (a ++ b)) := by
  show strOp .add a b = _
  simp only [strOp, Nat.ble_eq_true_of_le h, cond_true]
theorem cv_int8 (k : IntKind) (n : Int) : cvOp (.toInt .i64) (.int k n) = some (I64 (IntKind.wrap .i64 n)) := rfl
theorem str_eql (a b : List Nat) : binOp .eql (.str a) (.str b) = some (.bool (eqL a b)) := rfl
theorem ixs_str {s : List Nat} {i : Nat} (h : i < s.length) : ixsOp i (.str s) = some (.int .u8 (s[i] : Nat)) := by
  simp only [ixsOp, List.getElem?_eq_getElem h]
theorem digit_char {r : Nat} (h : r < 10) : cutR [48, 49, 50, 51, 52, 53, 54, 55, 56, 57] (some r) (some (r + 1)) = some (.str [48 + r]) := by
  rw [cutR_ok (by omega) (by simp; omega)]
  have : r = 0 ∨ r = 1 ∨ r = 2 ∨ r = 3 ∨ r = 4 ∨ r = 5 ∨ r = 6 ∨ r = 7 ∨ r = 8 ∨ r = 9 := by omega
  rcases this with rfl | rfl | rfl | rfl | rfl | rfl | rfl | rfl | rfl | rfl <;> rfl
section
variable {P : Prog} {L : Lib}
theorem a292 (h : Has P L 292 c292) {n : Nat} (hn : n < 9223372036854775808) : Ans P L 292 [I64 n, I64 1] (.str (natS n)) := by
  have key := loop_can (P := P) (L := L) (live := [0, 1, 5]) (a := c292_0)
    (I := fun k st => ∃ (m : Nat) (s : List Nat), st = ⟨[(0, I64 m), (1, I64 1), (5, .str s)], [], 0, 0⟩ ∧ m ≤ n ∧ m + (1 - s.length) = k ∧ s.length ≤ 20 ∧ ((s = [] ∧ m = n) ∨ (0 < s.length ∧ (m = 0 → s = natS n) ∧ (0 < m → natS n = natS m ++ s))))
    (Q := fun ex st => ∃ tm ct, st = ⟨tm, [], ct, 0⟩ ∧ ex = .exit 0 ∧ tget tm 5 = .str (natS n)) ?_
  · unfold Ans; rw [call_eq h]
    simp only [go_sem, c292]
    generalize hq : D P L (.loop [0, 1, 5] c292_0) _ = q
    obtain ⟨ex, st, rfl, tm, ct, rfl, rfl, h2⟩ := of_key hq (key (n + 1)) ⟨n, [], by simp only [go_sem, Nat.reduceEqDiff, compact0] <;> rfl, by omega, rfl, by simp, .inl ⟨rfl, rfl⟩⟩
    simp only [go_sem, compact0, h2]
  · rintro k st ⟨m, s, rfl, hm, hk, hl, hs⟩
    by_cases hgo : 0 < m ∨ s.length < 1
    · left
      have hc : ((decide ((0 : Int) < m)) = true) ∨ ((decide ((0 : Int) < m)) = false ∧ ((s.length : Nat) : Int) < 1) := by
        by_cases h0 : 0 < m
        · exact .inl (decide_eq_true (by omega))
        · exact .inr ⟨decide_eq_false (by omega), by omega⟩
      have hr : ((m : Int)).tmod 10 = ((m % 10 : Nat) : Int) := by rw [Int.tmod_eq_emod_of_nonneg (by omega)]; rfl
      have hq : ((m : Int)).tdiv 10 = ((m / 10 : Nat) : Int) := by rw [Int.tdiv_eq_ediv_of_nonneg (by omega)]; rfl
      have hd := digit_char (r := m % 10) (by omega)
      have fin : ∃ s' k', D P L c292_0 ⟨[(0, I64 m), (1, I64 1), (5, .str s)], [], 0, 0⟩ = some (.normal, s') ∧ k' < k ∧ compact [0, 1, 5] s' = ⟨[(0, I64 (m / 10 : Nat)), (1, I64 1), (5, .str ([48 + m % 10] ++ s))], [], 0, 0⟩ ∧ m / 10 + (1 - ([48 + m % 10] ++ s).length) = k' := by
        rcases hc with hc | ⟨hc, hc2⟩
        · have hc : (0 : Int) < m := of_decide_eq_true hc
          simp only [go_sem, Nat.reduceEqDiff, Nat.reduceAdd, c292_0, hc, bin_rem _ _ _ (show (10 : Int) ≠ 0 by decide), bin_quo _ _ _ (show (10 : Int) ≠ 0 by decide), hr, hq, wrapN (n := m % 10 + 1) (by omega), wrap64 (n := ((m / 10 : Nat) : Int)) (by omega) (by omega), cut_str, bound_s, show ((m % 10 : Nat) : Int) + 1 = ((m % 10 + 1 : Nat) : Int) from rfl, hd, str_add (a := [48 + m % 10]) (b := s) (by simp; omega)]
          refine ⟨_, _, rfl, ?_, by simp only [go_sem, Nat.reduceEqDiff, compact0], rfl⟩
          simp; omega
        · have hc : ¬ (0 : Int) < m := of_decide_eq_false hc
          simp only [go_sem, Nat.reduceEqDiff, Nat.reduceAdd, c292_0, hc, hc2, bin_rem _ _ _ (show (10 : Int) ≠ 0 by decide), bin_quo _ _ _ (show (10 : Int) ≠ 0 by decide), hr, hq, wrapN (n := m % 10 + 1) (by omega), wrap64 (n := ((m / 10 : Nat) : Int)) (by omega) (by omega), cut_str, bound_s, show ((m % 10 : Nat) : Int) + 1 = ((m % 10 + 1 : Nat) : Int) from rfl, hd, str_add (a := [48 + m % 10]) (b := s) (by simp; omega)]
          refine ⟨_, _, rfl, ?_, by simp only [go_sem, Nat.reduceEqDiff, compact0], rfl⟩
          simp; omega
      obtain ⟨s', k', f1, f2, f3, f4⟩ := fin
      refine ⟨s', k', f1, f2, m / 10, [48 + m % 10] ++ s, f3, by omega, f4, ?_, .inr ⟨by simp, fun h0 => ?_, fun h0 => ?_⟩⟩
      · have hn20 := natS_len20 (n := n) (by omega)
        rcases hs with ⟨rfl, rfl⟩ | ⟨h1, h2, h3⟩
        · simp
        · by_cases h0 : 0 < m
          · have e := congrArg List.length (h3 h0)
            have e2 : 0 < (natS m).length := by
              by_cases h9 : m < 10
              · rw [natS_small h9]; simp
              · rw [natS_big h9]; simp
            simp only [List.length_append] at e
            simp; omega
          · omega
      · have h9 : m < 10 := by omega
        rcases hs with ⟨rfl, rfl⟩ | ⟨h1, h2, h3⟩
        · rw [natS_small h9, Nat.mod_eq_of_lt h9]; rfl
        · have : 0 < m := by omega
          rw [h3 this, natS_small h9, Nat.mod_eq_of_lt h9]
      · have h9 : ¬ m < 10 := by omega
        rcases hs with ⟨rfl, rfl⟩ | ⟨h1, h2, h3⟩
        · rw [natS_big h9]; simp
        · rw [h3 (by omega), natS_big h9]; simp
    · right
      simp only [go_sem, Nat.reduceEqDiff, c292_0, show ¬ (0 : Int) < m by omega, show ¬ ((s.length : Nat) : Int) < 1 by omega]
      refine ⟨_, _, rfl, by simp, _, _, rfl, rfl, ?_⟩
      simp only [go_sem, Nat.reduceEqDiff]
      rcases hs with ⟨rfl, rfl⟩ | ⟨h1, h2, h3⟩
      · simp at hgo
      · rw [h2 (by omega)]
theorem a291 (h : Has P L 291 c291) {a b : Nat} (ha : a < 9223372036854775808) (hb : b < 9223372036854775808) : Ans P L 291 [I64 a, I64 b] (I64 (Nat.gcd a b)) := by
  have key := loop_can (P := P) (L := L) (live := [0, 1]) (a := c291_0)
    (I := fun k st => ∃ x y : Nat, st = ⟨[(0, I64 x), (1, I64 y)], [], 0, 0⟩ ∧ y = k ∧ Nat.gcd x y = Nat.gcd a b)
    (Q := fun ex st => ∃ tm ct, st = ⟨tm, [], ct, 0⟩ ∧ ex = .exit 0 ∧ tget tm 0 = I64 (Nat.gcd a b)) ?_
  · unfold Ans; rw [call_eq h]
    simp only [go_sem, c291]
    generalize hq : D P L (.loop [0, 1] c291_0) _ = q
    obtain ⟨ex, st, rfl, tm, ct, rfl, rfl, h2⟩ := of_key hq (key b) ⟨a, b, by simp only [go_sem, Nat.reduceEqDiff, compact0] <;> rfl, rfl, rfl⟩
    simp only [go_sem, compact0, h2]
  · rintro k st ⟨x, y, rfl, rfl, hg⟩
    by_cases hy : y = 0
    · right
      subst hy
      simp only [go_sem, Nat.reduceEqDiff, c291_0, show ¬ (0 : Int) < ((0 : Nat) : Int) by omega]
      refine ⟨_, _, rfl, by simp, _, _, rfl, rfl, ?_⟩
      simp only [go_sem, Nat.reduceEqDiff]
      rw [← hg, Nat.gcd_zero_right]
    · left
      have hr : ((x : Int)).tmod y = ((x % y : Nat) : Int) := by rw [Int.tmod_eq_emod_of_nonneg (by omega)]; rfl
      simp only [go_sem, Nat.reduceEqDiff, c291_0, show (0 : Int) < y by omega, bin_rem _ _ _ (show (y : Int) ≠ 0 by omega), hr]
      refine ⟨_, x % y, rfl, Nat.mod_lt _ (by omega), y, x % y, by simp only [go_sem, Nat.reduceEqDiff, compact0], rfl, ?_⟩
      rw [← hg, Nat.gcd_comm y, ← Nat.gcd_rec, Nat.gcd_comm]
end
end VE
end
section
set_option maxRecDepth 100000
namespace VE
open Go (IntKind)
section
variable {P : Prog} {L : Lib}
theorem a272 (h : Has P L 272 c272) {s : List Nat} (hl : s.length ≤ 1000000000) : Ans P L 272 [.str s] (I64 (slashN s)) := by
  have key := loop_can (P := P) (L := L) (live := [0, 3]) (a := c272_0)
    (I := fun k st => ∃ i : Nat, st = ⟨[(0, .str s), (3, I64 i)], [], 0, 0⟩ ∧ i + k = s.length ∧ i + slashN (s.drop i) = slashN s)
    (Q := fun ex st => ∃ tm ct, st = ⟨tm, [], ct, 0⟩ ∧ ((ex = .ret ∧ tget tm 2 = I64 (slashN s)) ∨ (ex = .exit 0 ∧ tget tm 0 = .str s ∧ slashN s = s.length))) ?_
  · unfold Ans; rw [call_eq h]
    simp only [go_sem, c272]
    generalize hq : D P L (.loop [0, 3] c272_0) _ = q
    obtain ⟨ex, st, rfl, tm, ct, rfl, h2⟩ := of_key hq (key s.length) ⟨0, by simp only [go_sem, Nat.reduceEqDiff, compact0] <;> rfl, by omega, by simp⟩
    rcases h2 with ⟨rfl, h2⟩ | ⟨rfl, h2, h3⟩
    · simp only [go_sem, h2]
    · simp only [go_sem, compact0, h2, h3]
  · rintro k st ⟨i, rfl, hk, hs⟩
    by_cases hi : i < s.length
    · rw [slashN_drop hi] at hs
      by_cases h7 : s[i] = 47
      · right
        rw [if_pos h7] at hs
        simp only [go_sem, Nat.reduceEqDiff, c272_0, show (i : Int) < s.length by omega, ixs_str hi, show ((s[i] : Nat) : Int) = 47 by omega]
        refine ⟨_, _, rfl, by simp, _, _, rfl, .inl ⟨rfl, ?_⟩⟩
        simp only [go_sem]
        rw [← hs]; rfl
      · left
        rw [if_neg h7] at hs
        simp only [go_sem, Nat.reduceEqDiff, c272_0, show (i : Int) < s.length by omega, ixs_str hi, show ¬ ((s[i] : Nat) : Int) = 47 by omega]
        refine ⟨_, k - 1, rfl, by omega, i + 1, ?_, by omega, by omega⟩
        rw [wrap64 (by omega) (by omega)]
        simp only [go_sem, Nat.reduceEqDiff, compact0] <;> rfl
    · right
      simp only [go_sem, Nat.reduceEqDiff, c272_0, show ¬ (i : Int) < s.length by omega]
      refine ⟨_, _, rfl, by simp, _, _, rfl, .inr ⟨rfl, by simp only [go_sem, Nat.reduceEqDiff], ?_⟩⟩
      rw [List.drop_eq_nil_of_le (by omega)] at hs
      simp only [slashN] at hs
      omega
theorem a290 (h : Has P L 290 c290) {s : List Nat} {v : Nat} (hl : s.length ≤ 18) (hv : valN s 0 = some v) : Ans P L 290 [.str s] (I64 v) := by
  have key := loop_can (P := P) (L := L) (live := [0, 3, 4]) (a := c290_0)
    (I := fun k st => ∃ i a : Nat, st = ⟨[(0, .str s), (3, I64 a), (4, I64 i)], [], 0, 0⟩ ∧ i + k = s.length ∧ a < 10 ^ i ∧ valN (s.drop i) a = some v)
    (Q := fun ex st => ∃ tm ct, st = ⟨tm, [], ct, 0⟩ ∧ ex = .exit 0 ∧ tget tm 3 = I64 v) ?_
  · unfold Ans; rw [call_eq h]
    simp only [go_sem, c290]
    generalize hq : D P L (.loop [0, 3, 4] c290_0) _ = q
    obtain ⟨ex, st, rfl, tm, ct, rfl, rfl, h2⟩ := of_key hq (key s.length) ⟨0, 0, by simp only [go_sem, Nat.reduceEqDiff, compact0] <;> rfl, by omega, by simp, hv⟩
    simp only [go_sem, compact0, h2]
  · rintro k st ⟨i, a, rfl, hk, ha, hs⟩
    by_cases hi : i < s.length
    · left
      obtain ⟨h1, h2, h3⟩ := valN_step hi hs
      have hp : 10 ^ i ≤ 10 ^ 17 := Nat.pow_le_pow_right (by decide) (by omega)
      have hp' : (10 : Nat) ^ 17 = 100000000000000000 := by decide
      have hb : IntKind.wrap .i64 ((s[i] : Nat) : Int) = ((s[i] : Nat) : Int) := wrap64 (by omega) (by omega)
      simp only [go_sem, Nat.reduceEqDiff, c290_0, show (i : Int) < s.length by omega, ixs_str hi, cv_int8, hb, wrap64 (n := 10 * (a : Int)) (by omega) (by omega), wrap64 (n := 10 * (a : Int) + (s[i] : Nat)) (by omega) (by omega), wrap64 (n := 10 * (a : Int) + (s[i] : Nat) - 48) (by omega) (by omega)]
      refine ⟨_, k - 1, rfl, by omega, i + 1, 10 * a + (s[i] - 48), ?_, by omega, ?_, h3⟩
      · rw [wrap64 (by omega) (by omega), show 10 * (a : Int) + (s[i] : Nat) - 48 = ((10 * a + (s[i] - 48) : Nat) : Int) by omega]
        simp only [go_sem, Nat.reduceEqDiff, compact0] <;> rfl
      · rw [Nat.pow_succ]; omega
    · right
      simp only [go_sem, Nat.reduceEqDiff, c290_0, show ¬ (i : Int) < s.length by omega]
      refine ⟨_, _, rfl, by simp, _, _, rfl, rfl, ?_⟩
      rw [List.drop_eq_nil_of_le (by omega)] at hs
      simp only [valN, Option.some.injEq] at hs
      subst hs
      simp only [go_sem, Nat.reduceEqDiff]
theorem abs_max (a : Int) : (if 0 - a > a then 0 - a else a) = (a.natAbs : Int) := by split <;> omega
theorem tdiv_num (a b : Int) : a.tdiv (Int.gcd a b : Nat) = rnum a b := Int.tdiv_eq_ediv_of_dvd (Int.gcd_dvd_left a b)
theorem tdiv_den (a b : Int) : b.tdiv (Int.gcd a b : Nat) = rden a b := Int.tdiv_eq_ediv_of_dvd (Int.gcd_dvd_right a b)
theorem sign_text (n : Int) : (if n < 0 then [45] else []) ++ natS n.natAbs = intS n := by
  split
  · rename_i h; rw [intS_neg h]; rfl
  · rename_i h
    obtain ⟨m, rfl⟩ : ∃ m : Nat, n = m := ⟨n.toNat, by omega⟩
    rfl
theorem intS_len {n : Int} (h : n.natAbs < 18446744073709551616) : (intS n).length ≤ 21 := by
  rw [← sign_text]
  have := natS_len20 h
  split <;> simp <;> omega
theorem of_text {a b : Int} (hb : 0 < b) : ratT a b = (if 1 < rden a b then (intS (rnum a b) ++ [47]) ++ natS (rden a b).natAbs else intS (rnum a b)) := by
  have h := rden_pos (a := a) hb
  unfold ratT
  by_cases h1 : rden a b = 1
  · rw [if_pos h1, if_neg (by omega)]
  · rw [if_neg h1, if_pos (by omega)]
    obtain ⟨m, hm⟩ : ∃ m : Nat, rden a b = m := ⟨(rden a b).toNat, by omega⟩
    rw [hm]; rfl
theorem a277 (h : Has P L 277 c277) (h291 : Has P L 291 c291) (h292 : Has P L 292 c292) {a b : Int} (ha : -4000000000000000000 ≤ a ∧ a ≤ 4000000000000000000) (hb : 0 < b ∧ b ≤ 4000000000000000000) :
    Ans P L 277 [I64 a, I64 b] (.str (ratT a b)) := by
  have hn := rnum_abs a b
  have hd := rden_abs a b
  have hp := rden_pos (a := a) hb.1
  have e1 := a291 h291 (a := a.natAbs) (b := b.natAbs) (by omega) (by omega)
  have e2 := a292 h292 (n := (rnum a b).natAbs) (by omega)
  have e3 := a292 h292 (n := (rden a b).natAbs) (by omega)
  have hg := gcd_pos (a := a) hb.1
  rw [show ((b.natAbs : Nat) : Int) = b by omega, show Nat.gcd a.natAbs b.natAbs = Int.gcd a b from rfl] at e1
  rw [show (((rden a b).natAbs : Nat) : Int) = rden a b by omega] at e3
  have hl1 := intS_len (n := rnum a b) (by omega)
  have hl2 := natS_len20 (n := (rnum a b).natAbs) (by omega)
  have hl3 := natS_len20 (n := (rden a b).natAbs) (by omega)
  have hT := of_text (a := a) hb.1
  have hS := sign_text (rnum a b)
  unfold Ans at e1 e2 e3 ⊢; rw [call_eq h]
  by_cases h0 : rnum a b < 0
  · rw [if_pos h0] at hS
    by_cases h1 : 1 < rden a b
    · rw [if_pos h1] at hT
      simp only [go_sem, Nat.reduceEqDiff, c277, show ¬ a < -4000000000000000000 by omega, show ¬ 4000000000000000000 < a by omega, show ¬ b < -4000000000000000000 by omega, show ¬ 4000000000000000000 < b by omega, show ¬ b < 0 by omega, wrap64 (n := 0 - a) (by omega) (by omega), op_mx2, max2_int, abs_max, e1, bin_quo _ _ _ (show ((Int.gcd a b : Nat) : Int) ≠ 0 by omega), tdiv_num, tdiv_den, wrap64 (n := rnum a b) (by omega) (by omega), wrap64 (n := rden a b) (by omega) (by omega), h0, wrap64 (n := 0 - rnum a b) (by omega) (by omega), e2, str_add (a := [45]) (b := natS (rnum a b).natAbs) (by simp; omega), hS, h1, str_add (a := intS (rnum a b)) (b := [47]) (by simp; omega), e3, str_add (a := intS (rnum a b) ++ [47]) (b := natS (rden a b).natAbs) (by simp; omega), hT]
    · rw [if_neg h1] at hT
      simp only [go_sem, Nat.reduceEqDiff, c277, show ¬ a < -4000000000000000000 by omega, show ¬ 4000000000000000000 < a by omega, show ¬ b < -4000000000000000000 by omega, show ¬ 4000000000000000000 < b by omega, show ¬ b < 0 by omega, wrap64 (n := 0 - a) (by omega) (by omega), op_mx2, max2_int, abs_max, e1, bin_quo _ _ _ (show ((Int.gcd a b : Nat) : Int) ≠ 0 by omega), tdiv_num, tdiv_den, wrap64 (n := rnum a b) (by omega) (by omega), wrap64 (n := rden a b) (by omega) (by omega), h0, wrap64 (n := 0 - rnum a b) (by omega) (by omega), e2, str_add (a := [45]) (b := natS (rnum a b).natAbs) (by simp; omega), hS, h1, hT]
  · rw [if_neg h0] at hS
    by_cases h1 : 1 < rden a b
    · rw [if_pos h1] at hT
      simp only [go_sem, Nat.reduceEqDiff, c277, show ¬ a < -4000000000000000000 by omega, show ¬ 4000000000000000000 < a by omega, show ¬ b < -4000000000000000000 by omega, show ¬ 4000000000000000000 < b by omega, show ¬ b < 0 by omega, wrap64 (n := 0 - a) (by omega) (by omega), op_mx2, max2_int, abs_max, e1, bin_quo _ _ _ (show ((Int.gcd a b : Nat) : Int) ≠ 0 by omega), tdiv_num, tdiv_den, wrap64 (n := rnum a b) (by omega) (by omega), wrap64 (n := rden a b) (by omega) (by omega), h0, wrap64 (n := 0 - rnum a b) (by omega) (by omega), e2, str_add (a := []) (b := natS (rnum a b).natAbs) (by simp; omega), hS, h1, str_add (a := intS (rnum a b)) (b := [47]) (by simp; omega), e3, str_add (a := intS (rnum a b) ++ [47]) (b := natS (rden a b).natAbs) (by simp; omega), hT]
    · rw [if_neg h1] at hT
      simp only [go_sem, Nat.reduceEqDiff, c277, show ¬ a < -4000000000000000000 by omega, show ¬ 4000000000000000000 < a by omega, show ¬ b < -4000000000000000000 by omega, show ¬ 4000000000000000000 < b by omega, show ¬ b < 0 by omega, wrap64 (n := 0 - a) (by omega) (by omega), op_mx2, max2_int, abs_max, e1, bin_quo _ _ _ (show ((Int.gcd a b : Nat) : Int) ≠ 0 by omega), tdiv_num, tdiv_den, wrap64 (n := rnum a b) (by omega) (by omega), wrap64 (n := rden a b) (by omega) (by omega), h0, wrap64 (n := 0 - rnum a b) (by omega) (by omega), e2, str_add (a := []) (b := natS (rnum a b).natAbs) (by simp; omega), hS, h1, hT]
end
end VE
end
section
set_option maxRecDepth 100000
namespace VE
open Go (IntKind)
def TT (n : Int) (d : Nat) : List Nat := intS n ++ (if d = 1 then [] else 47 :: natS d)
theorem ratT_TT {a b : Int} (hb : 0 < b) : ratT a b = TT (rnum a b) (rden a b).toNat := by
  have h := rden_pos (a := a) hb
  unfold ratT TT
  by_cases h1 : rden a b = 1
  · rw [if_pos h1, if_pos (by omega), List.append_nil]
  · rw [if_neg h1, if_neg (by omega)]
    obtain ⟨m, hm⟩ : ∃ m : Nat, rden a b = m := ⟨(rden a b).toNat, by omega⟩
    rw [hm, List.append_assoc]; rfl
theorem natS_pos (n : Nat) : 0 < (natS n).length := by
  by_cases h : n < 10
  · rw [natS_small h]; simp
  · rw [natS_big h]; simp
theorem natS_lt : ∀ (n : Nat), n < 10 ^ (natS n).length := by
  intro n
  induction n using Nat.strongRecOn with
  | _ n ih =>
    by_cases h : n < 10
    · rw [natS_small h]; simpa using h
    · have := ih (n / 10) (by omega)
      rw [natS_big h, List.length_append, List.length_singleton, Nat.pow_succ]
      omega
theorem natS_lt9 {n : Nat} (h : (natS n).length ≤ 9) : n < 1000000000 :=
  Nat.lt_of_lt_of_le (natS_lt n) (by simpa using Nat.pow_le_pow_right (show 0 < 10 by decide) h)
theorem natS_head (n : Nat) : ∃ b r, natS n = b :: r ∧ 48 ≤ b ∧ b ≤ 57 := by
  cases hq : natS n with
  | nil => have := natS_pos n; rw [hq] at this; simp at this
  | cons b r =>
    have := digB_natS n
    rw [hq] at this
    simp only [digB, Bool.and_eq_true] at this
    exact ⟨b, r, rfl, Nat.le_of_ble_eq_true this.1.1, Nat.le_of_ble_eq_true this.1.2⟩
section
variable {P : Prog} {L : Lib}
theorem ixs0 (s : List Nat) : ixsOp 0 (.str (45 :: s)) = some (.int .u8 45) := rfl
def quickV (q : Bool) (n : Int) (d : Nat) : AV := if q = true then .tup [I64 n, I64 d, .bool true] else .tup [I64 0, I64 0, .bool false]
def restT (d : Nat) : List Nat := if d = 1 then [] else 47 :: natS d
theorem rest_slash (d : Nat) : slashN (restT d) = 0 := by unfold restT; split <;> rfl
theorem a276 (h : Has P L 276 c276) (h272 : Has P L 272 c272) (h290 : Has P L 290 c290) {n : Int} {d : Nat} (hl : (TT n d).length ≤ 1000000) :
    ∃ q : Bool, Ans P L 276 [.str (TT n d)] (quickV q n d) ∧ (q = true → n.natAbs < 1000000000 ∧ d < 1000000000) := by
  generalize hs : TT n d = s at hl
  by_cases h20 : 20 < s.length
  · refine ⟨false, ?_, fun h => by cases h⟩
    unfold Ans; rw [call_eq h]
    simp only [go_sem, Nat.reduceEqDiff, c276, show (20 : Int) < s.length by omega]
    rfl
  · have hu : ∃ u, u = natS n.natAbs ++ restT d := ⟨_, rfl⟩
    obtain ⟨u, hu⟩ := hu
    have hK : ∃ K, K = (natS n.natAbs).length := ⟨_, rfl⟩
    obtain ⟨K, hK⟩ := hK
    have hsl : slashN u = K := by rw [hu, slashN_digB _ (digB_natS _), rest_slash, hK]; rfl
    have hlen : u.length = K + (restT d).length := by rw [hu, hK, List.length_append]
    have hp := natS_pos n.natAbs
    obtain ⟨b, r, hb, hb1, hb2⟩ := natS_head n.natAbs
    have hsu : (n < 0 ∧ s = 45 :: u) ∨ (¬ n < 0 ∧ s = u) := by
      by_cases h0 : n < 0
      · left; refine ⟨h0, ?_⟩; rw [← hs, hu, TT, intS_neg h0]; rfl
      · right; refine ⟨h0, ?_⟩; rw [← hs, hu, TT, ← sign_text, if_neg h0]; rfl
    have hul : u.length ≤ s.length := by rcases hsu with ⟨_, e⟩ | ⟨_, e⟩ <;> rw [e] <;> simp
    have hu0 : 0 < u.length := by omega
    have hu1 : u[0] = b := by
      have : u = b :: (r ++ restT d) := by rw [hu, hb]; rfl
      simp [this]
    have e1 := a272 h272 (s := u) (by omega)
    rw [hsl] at e1
    have hc1 : cutR u (some 0) (some K) = some (.str (natS n.natAbs)) := by
      rw [cutR_ok (by omega) (by omega), List.drop_zero, hu, hK, List.take_left]
    unfold Ans at e1
    by_cases h9 : 9 < K
    · refine ⟨false, ?_, fun h => by cases h⟩
      unfold Ans; rw [call_eq h]
      rcases hsu with ⟨h0, e⟩ | ⟨h0, e⟩
      · have h20 : ¬ 20 < u.length + 1 := by rw [e] at h20; exact h20
        have hc0 : cutR (45 :: u) (some 1) (some (u.length + 1)) = some (.str u) := by rw [cutR_ok (s := 45 :: u) (l := 1) (h := u.length + 1) (by omega) (by simp)]; simp
        rw [e]
        simp only [go_sem, Nat.reduceEqDiff, c276, show ¬ (20 : Int) < ((u.length + 1 : Nat) : Int) by omega, show (0 : Int) < ((u.length + 1 : Nat) : Int) by omega, ixs0, cut_str, bound_n, bound_s, hc0, e1, show (9 : Int) < (K : Int) by omega]
        rfl
      · rw [e]
        simp only [go_sem, Nat.reduceEqDiff, c276, show ¬ (20 : Int) < (u.length : Nat) by omega, show (0 : Int) < (u.length : Nat) by omega, ixs_str hu0, hu1, show ¬ ((b : Nat) : Int) = 45 by omega, e1, show (9 : Int) < (K : Int) by omega]
        rfl
    · by_cases h10 : 10 < (restT d).length
      · refine ⟨false, ?_, fun h => by cases h⟩
        unfold Ans; rw [call_eq h]
        rcases hsu with ⟨h0, e⟩ | ⟨h0, e⟩
        · have h20 : ¬ 20 < u.length + 1 := by rw [e] at h20; exact h20
          have hc0 : cutR (45 :: u) (some 1) (some (u.length + 1)) = some (.str u) := by rw [cutR_ok (s := 45 :: u) (l := 1) (h := u.length + 1) (by omega) (by simp)]; simp
          rw [e]
          simp only [go_sem, Nat.reduceEqDiff, c276, show ¬ (20 : Int) < ((u.length + 1 : Nat) : Int) by omega, show (0 : Int) < ((u.length + 1 : Nat) : Int) by omega, ixs0, cut_str, bound_n, bound_s, hc0, e1, show ¬ (9 : Int) < (K : Int) by omega, wrap64 (n := (u.length : Int) - (K : Int)) (by omega) (by omega), show (10 : Int) < (u.length : Int) - (K : Int) by omega]
          rfl
        · rw [e]
          simp only [go_sem, Nat.reduceEqDiff, c276, show ¬ (20 : Int) < (u.length : Nat) by omega, show (0 : Int) < (u.length : Nat) by omega, ixs_str hu0, hu1, show ¬ ((b : Nat) : Int) = 45 by omega, e1, show ¬ (9 : Int) < (K : Int) by omega, wrap64 (n := (u.length : Int) - (K : Int)) (by omega) (by omega), show (10 : Int) < (u.length : Int) - (K : Int) by omega]
          rfl
      · have e2 := a290 h290 (s := natS n.natAbs) (by omega) (valN_natS n.natAbs)
        unfold Ans at e2
        have hm := natS_lt9 (n := n.natAbs) (by omega)
        by_cases hd : d = 1
        · subst hd
          have hr0 : restT 1 = [] := rfl
          refine ⟨true, ?_, fun _ => ⟨hm, by decide⟩⟩
          rw [hr0] at hlen
          simp only [List.length_nil, Nat.add_zero] at hlen
          unfold Ans; rw [call_eq h]
          rcases hsu with ⟨h0, e⟩ | ⟨h0, e⟩
          · have h20 : ¬ 20 < u.length + 1 := by rw [e] at h20; exact h20
            have hc0 : cutR (45 :: u) (some 1) (some (u.length + 1)) = some (.str u) := by rw [cutR_ok (s := 45 :: u) (l := 1) (h := u.length + 1) (by omega) (by simp)]; simp
            rw [e]
            simp only [go_sem, Nat.reduceEqDiff, c276, show ¬ (20 : Int) < ((u.length + 1 : Nat) : Int) by omega, show (0 : Int) < ((u.length + 1 : Nat) : Int) by omega, ixs0, cut_str, bound_n, bound_s, hc0, e1, show ¬ (9 : Int) < (K : Int) by omega, wrap64 (n := (u.length : Int) - (K : Int)) (by omega) (by omega), show ¬ (10 : Int) < (u.length : Int) - (K : Int) by omega, hc1, e2, show ¬ (K : Int) < (u.length : Int) by omega, wrap64 (n := 0 - (n.natAbs : Int)) (by omega) (by omega)]
            rw [show 0 - (n.natAbs : Int) = n by omega]
            rfl
          · rw [e]
            simp only [go_sem, Nat.reduceEqDiff, c276, show ¬ (20 : Int) < (u.length : Nat) by omega, show (0 : Int) < (u.length : Nat) by omega, ixs_str hu0, hu1, show ¬ ((b : Nat) : Int) = 45 by omega, cut_str, bound_n, bound_s, e1, show ¬ (9 : Int) < (K : Int) by omega, wrap64 (n := (u.length : Int) - (K : Int)) (by omega) (by omega), show ¬ (10 : Int) < (u.length : Int) - (K : Int) by omega, hc1, e2, show ¬ (K : Int) < (u.length : Int) by omega]
            rw [show (n.natAbs : Int) = n by omega]
            rfl
        · have hr0 : restT d = 47 :: natS d := if_neg hd
          have hlr : (restT d).length = (natS d).length + 1 := by rw [hr0]; rfl
          have hpd := natS_pos d
          have hd9 := natS_lt9 (n := d) (by omega)
          have e3 := a290 h290 (s := natS d) (by omega) (valN_natS d)
          unfold Ans at e3
          have hc2 : cutR u (some (K + 1)) (some u.length) = some (.str (natS d)) := by
            rw [cutR_ok (by omega) (Nat.le_refl _), List.take_length, hu, hr0, hK, show (natS n.natAbs).length + 1 = (natS n.natAbs ++ [47]).length by simp, show natS n.natAbs ++ 47 :: natS d = (natS n.natAbs ++ [47]) ++ natS d by simp, List.drop_left]
          refine ⟨true, ?_, fun _ => ⟨hm, hd9⟩⟩
          unfold Ans; rw [call_eq h]
          rcases hsu with ⟨h0, e⟩ | ⟨h0, e⟩
          · have h20 : ¬ 20 < u.length + 1 := by rw [e] at h20; exact h20
            have hc0 : cutR (45 :: u) (some 1) (some (u.length + 1)) = some (.str u) := by rw [cutR_ok (s := 45 :: u) (l := 1) (h := u.length + 1) (by omega) (by simp)]; simp
            rw [e]
            simp only [go_sem, Nat.reduceEqDiff, c276, show ¬ (20 : Int) < ((u.length + 1 : Nat) : Int) by omega, show (0 : Int) < ((u.length + 1 : Nat) : Int) by omega, ixs0, cut_str, bound_n, bound_s, hc0, e1, show ¬ (9 : Int) < (K : Int) by omega, wrap64 (n := (u.length : Int) - (K : Int)) (by omega) (by omega), show ¬ (10 : Int) < (u.length : Int) - (K : Int) by omega, hc1, e2, show (K : Int) < (u.length : Int) by omega, wrapN (n := K + 1) (by omega), show (K : Int) + 1 = ((K + 1 : Nat) : Int) from rfl, hc2, e3, wrap64 (n := 0 - (n.natAbs : Int)) (by omega) (by omega)]
            rw [show 0 - (n.natAbs : Int) = n by omega]
            rfl
          · rw [e]
            simp only [go_sem, Nat.reduceEqDiff, c276, show ¬ (20 : Int) < (u.length : Nat) by omega, show (0 : Int) < (u.length : Nat) by omega, ixs_str hu0, hu1, show ¬ ((b : Nat) : Int) = 45 by omega, cut_str, bound_n, bound_s, e1, show ¬ (9 : Int) < (K : Int) by omega, wrap64 (n := (u.length : Int) - (K : Int)) (by omega) (by omega), show ¬ (10 : Int) < (u.length : Int) - (K : Int) by omega, hc1, e2, show (K : Int) < (u.length : Int) by omega, wrapN (n := K + 1) (by omega), show (K : Int) + 1 = ((K + 1 : Nat) : Int) from rfl, hc2, e3]
            rw [show (n.natAbs : Int) = n by omega]
            rfl
end
end VE
end
section
set_option maxRecDepth 100000
namespace VE
open Go (IntKind)
section
variable {P : Prog} {L : Lib}
theorem a302 (h : Has P L 302 c302) {v : AV} {l : List Int} (hv : IsI v l) (i : Nat) : Ans P L 302 [v, I64 i] (I64 (l.getD i 0)) := by
  unfold Ans; rw [call_eq h]
  by_cases hi : i < l.length
  · simp only [go_sem, Nat.reduceEqDiff, c302, hv.len, show (i : Int) < l.length by omega, hv.ixa hi]
    simp [List.getD_eq_getElem?_getD, List.getElem?_eq_getElem hi]
  · simp only [go_sem, Nat.reduceEqDiff, c302, hv.len, show ¬ (i : Int) < l.length by omega]
    simp [List.getD_eq_getElem?_getD, List.getElem?_eq_none (Nat.le_of_not_lt hi)]
theorem cut_vsl {hp : Hp} {e : Bool} {n : Nat} {cs : List AV} {tm : Env} {h : Nat} {x : X} (hx : bound tm n (some x) = some h) (hh : h ≤ n) :
    cutOp hp (.sl 1) (.vsl e n cs) tm none (some x) = some (.vsl (e && Nat.beq h n) h (cs.take h)) := by
  simp only [cutOp, hx, bound_n]
  simp [Nat.ble_eq_true_of_le hh, slice]
  rw [show Nat.ble 0 h = true from Nat.ble_eq_true_of_le (Nat.zero_le _)]; rfl
theorem a300 (h : Has P L 300 c300) {v : AV} {l : List Int} (hv : IsI v l) (hl : l.length ≤ 1000000) : ∃ r, Ans P L 300 [v] r ∧ IsI r (trimL l) ∧ shut r = r := by
  rcases hv with ⟨rfl, h0⟩ | ⟨e, rfl⟩
  · have : l = [] := by simpa using h0
    subst this
    refine ⟨.nils, ?_, isL_nils, rfl⟩
    unfold Ans; rw [call_eq h]
    simp only [go_sem, Nat.reduceEqDiff, c300, D_loop, c300_0, compact0, show ¬ (0 : Int) < 0 by decide]
  · have key := loop_can (P := P) (L := L) (live := [0]) (a := c300_0)
      (I := fun k st => ∃ (i : Nat) (e : Bool), st = ⟨[(0, .vsl e i ((l.take i).map I64))], [], 0, 0⟩ ∧ i ≤ l.length ∧ i = k ∧ trimL (l.take i) = trimL l)
      (Q := fun ex st => ∃ tm ct, st = ⟨tm, [], ct, 0⟩ ∧ ex = .exit 0 ∧ ∃ i e, tget tm 0 = .vsl e i ((l.take i).map I64) ∧ i ≤ l.length ∧ l.take i = trimL l) ?_
    · have hlen : (l.map I64).length = l.length := by simp
      rw [hlen]
      have goal : ∃ i e', Ans P L 300 [.vsl e l.length (l.map I64)] (.vsl e' i ((l.take i).map I64)) ∧ i ≤ l.length ∧ l.take i = trimL l := by
        unfold Ans; rw [call_eq h]
        simp only [go_sem, c300]
        generalize hq : D P L (.loop [0] c300_0) _ = q
        obtain ⟨ex, st, rfl, tm, ct, rfl, rfl, i, e', h2, h3, h4⟩ := of_key hq (key l.length) ⟨l.length, e, by simp only [go_sem, Nat.reduceEqDiff, compact0, List.take_length], Nat.le_refl _, rfl, by rw [List.take_length]⟩
        simp only [go_sem, compact0, h2]
        exact ⟨i, e', rfl, h3, h4⟩
      obtain ⟨i, e', g1, g2, g3⟩ := goal
      refine ⟨_, g1, ?_, rfl⟩
      rw [← g3]
      have := isI_vsl e' (l.take i)
      rwa [List.length_take, Nat.min_eq_left g2] at this
    · rintro k st ⟨i, e, rfl, hi, rfl, ht⟩
      cases i with
      | zero =>
        right
        simp only [go_sem, Nat.reduceEqDiff, c300_0, show ¬ (0 : Int) < ((0 : Nat) : Int) by omega]
        exact ⟨_, _, rfl, by simp, _, _, rfl, rfl, 0, e, by simp only [go_sem, Nat.reduceEqDiff], Nat.zero_le _, by simpa [trimL] using ht⟩
      | succ i =>
        have hi1 : i < l.length := by omega
        have htk : l.take (i + 1) = l.take i ++ [l[i]] := List.take_succ_eq_append_getElem hi1
        have hdr : List.drop i ((l.take (i + 1)).map I64) = [AV.int .i64 l[i]] := by
          rw [htk, List.map_append, List.drop_left' (by simp; omega)]; rfl
        have hix : ixaOp 1 i (.vsl e (i + 1) ((l.take (i + 1)).map I64)) = some (.vptr [AV.int .i64 l[i]]) := by
          rw [ixa_vsl e _ (by omega), Nat.mul_one, hdr]
        by_cases h0 : l[i] = 0
        · left
          have hcut : ∀ tm x, bound tm (i + 1) (some x) = some i → cutOp [] (.sl 1) (.vsl e (i + 1) ((l.take (i + 1)).map I64)) tm none (some x) = some (.vsl (e && Nat.beq i (i + 1)) i ((l.take i).map I64)) := fun tm x hx => by
            rw [cut_vsl hx (by omega), ← List.map_take, List.take_take, Nat.min_eq_left (by omega)]
          simp only [go_sem, Nat.reduceEqDiff, c300_0, show (0 : Int) < ((i + 1 : Nat) : Int) by omega, show ((i + 1 : Nat) : Int) - 1 = (i : Int) by omega, wrapN (n := i) (by omega), hix, h0, hcut, bound_s]
          refine ⟨_, i, rfl, by omega, i, _, by simp only [go_sem, compact0] <;> rfl, by omega, rfl, ?_⟩
          rw [← ht, htk, h0, trimL_zero]
        · right
          simp only [go_sem, Nat.reduceEqDiff, c300_0, show (0 : Int) < ((i + 1 : Nat) : Int) by omega, show ((i + 1 : Nat) : Int) - 1 = (i : Int) by omega, wrapN (n := i) (by omega), hix, h0]
          refine ⟨_, _, rfl, by simp, _, _, rfl, rfl, i + 1, e, by simp only [go_sem, Nat.reduceEqDiff], by omega, ?_⟩
          rw [← ht, htk, trimL_last h0]
end
end VE
end
section
set_option maxRecDepth 100000
namespace VE
open Go (IntKind)
def IsR (v : AV) (n : Int) : Prop := ∃ w l, v = .agg [.bool (decide (n < 0)), w] ∧ IsI w l ∧ dg l ∧ nz l ∧ dv l = n.natAbs
theorem len_le {l : List Int} {k : Nat} (hd : dg l) (hn : nz l) (h : dv l < 1000000000 ^ k) : l.length ≤ k := by
  by_cases h0 : l = []
  · subst h0; exact Nat.zero_le _
  · have h1 := nz_ge hn hd h0
    have h2 : 1000000000 ^ (l.length - 1) < 1000000000 ^ k := Nat.lt_of_le_of_lt h1 h
    have h3 := (Nat.pow_lt_pow_iff_right (show 1 < 1000000000 by decide)).1 h2
    omega
theorem stC_2 {hp : Hp} {ct id : Nat} {a b x y : AV} (h1 : oneCell a = true) (h2 : oneCell b = true) (p1 : pureAV a = true) (p2 : pureAV b = true) :
    stC hp ct id 0 2 [a, b] (some (.cells true true true 2 [x, y])) = some (.tup [], hset hp id (.cells true true true 2 [a, b]), ct) := by
  rw [stC_n (by rfl) (by simp) (by simp [oneCells, h1, h2])]
  simp [pureL, p1, p2, over]
section
variable {P : Prog} {L : Lib}
def sgnV (neg : Bool) (m : Nat) : Int := if neg = true then -(m : Int) else m
theorem a294 (h : Has P L 294 c294) (h300 : Has P L 300 c300) (neg : Bool) {v : AV} {l : List Int} (hv : IsI v l) (hd : dg l) (hl : l.length ≤ 1000000) :
    ∃ r, Ans P L 294 [.bool neg, v] r ∧ IsR r (sgnV neg (dv l)) := by
  obtain ⟨w, e1, hw, hsh⟩ := a300 h300 hv hl
  have hdv := trimL_dv l
  have hnz := nz_trim l
  have hdg := trimL_dg hd
  have hc : (neg && decide ((0 : Int) < ((trimL l).length : Nat))) = decide (sgnV neg (dv l) < 0) := by
    unfold sgnV
    cases neg with
    | false => simp
    | true =>
      simp only [Bool.true_and, if_true]
      by_cases h0 : trimL l = []
      · rw [h0] at hdv ⊢; simp only [dv] at hdv; simp [← hdv]
      · have h1 : 0 < (trimL l).length := List.length_pos_iff.2 h0
        have h2 : 0 < dv l := by
          rw [← hdv]
          rcases Nat.eq_zero_or_pos (dv (trimL l)) with h | h
          · exact absurd (nz_zero hnz hdg h) h0
          · exact h
        rw [decide_eq_true (by omega), decide_eq_true (by omega)]
  refine ⟨.agg [.bool (decide (sgnV neg (dv l) < 0)), w], ?_, w, trimL l, rfl, hw, hdg, hnz, ?_⟩
  · rw [← hc]
    unfold Ans at e1 ⊢; rw [call_eq h]
    cases neg with
    | false =>
      rw [Bool.false_and]
      simp only [go_sem, Nat.reduceEqDiff, Nat.reduceAdd, Nat.reduceLeDiff, c294, boxV_n, hv.frz, e1, hw.pu, hw.shut, hw.one, hw.cells, stC_2]
      rcases hw with ⟨rfl, _⟩ | ⟨e, rfl⟩ <;> rfl
    | true =>
      rw [Bool.true_and]
      simp only [go_sem, Nat.reduceEqDiff, Nat.reduceAdd, Nat.reduceLeDiff, c294, boxV_n, hv.frz, e1, hw.len, hw.pu, hw.shut, hw.one, hw.cells, stC_2]
      rcases hw with ⟨rfl, _⟩ | ⟨e, rfl⟩ <;> rfl
  · rw [hdv]; unfold sgnV; split <;> omega
end
end VE
end
