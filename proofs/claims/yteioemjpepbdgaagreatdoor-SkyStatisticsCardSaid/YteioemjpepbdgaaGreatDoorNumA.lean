import Derived.Test.YteioemjpepbdgaaGreatDoorSkyB
import Derived.Test.YteioemjpepbdgaaGreatDoorMono
set_option linter.all false
section
set_option maxRecDepth 100000
namespace VE
open Go (IntKind)
section
variable {P : Prog} {L : Lib}
abbrev Nm (n : Int) : AV := .agg [I64 n, .nils]
theorem stC_Nm (hp : Hp) (ct id : Nat) (a : Int) (x y : AV) : stC hp ct id 0 2 [.int .i64 a, .nils] (some (.cells true true true 2 [x, y])) = some (.tup [], hset hp id (.cells true true true 2 [.int .i64 a, .nils]), ct) := rfl
theorem eq_nils (hp : Hp) : eqOp .sl .nils .nils = some true := rfl
theorem eqB'_f (b : Bool) : eqB' false (some b) = some (.bool b) := by cases b <;> rfl
theorem op_mn2 (f : Run) (tm : Env) (hp : Hp) (ct : Nat) (x y : X) : evOp P L f tm hp ct (.mn [x, y]) = rd hp ct (min2 (xget tm x) (xget tm y)) := by
  simp only [evOp, rd, evRead, xgets, foldO]
  cases min2 (xget tm x) (xget tm y) <;> rfl
theorem op_mx2 (f : Run) (tm : Env) (hp : Hp) (ct : Nat) (x y : X) : evOp P L f tm hp ct (.mx [x, y]) = rd hp ct (max2 (xget tm x) (xget tm y)) := by
  simp only [evOp, rd, evRead, xgets, foldO]
  cases max2 (xget tm x) (xget tm y) <;> rfl
theorem min2_int (k k' : IntKind) (x y : Int) : min2 (.int k x) (.int k' y) = some (.int k (if y < x then y else x)) := rfl
theorem max2_int (k k' : IntKind) (x y : Int) : max2 (.int k x) (.int k' y) = some (.int k (if y > x then y else x)) := rfl
def sgn (n : Int) : Int := if n < 0 then -1 else if n = 0 then 0 else 1
theorem sgn_eq (n : Int) : (if (if n < 1 then n else 1) > -1 then (if n < 1 then n else 1) else -1) = sgn n := by
  unfold sgn
  by_cases h1 : n < 0
  · rw [if_pos (show n < 1 by omega), if_pos h1]; split <;> omega
  · by_cases h2 : n = 0
    · subst h2; rfl
    · rw [if_neg (show ¬ n < 1 by omega), if_neg h1, if_neg h2]; rfl
theorem n117 (h : Has P L 117 c117) (n : Int) : Ans P L 117 [I64 n] (Nm n) := by
  unfold Ans; rw [call_eq h]
  simp only [go_sem, Nat.reduceEqDiff, Nat.reduceAdd, Nat.reduceLeDiff, c117, boxV_n, Nat.zero_add, stC_Nm]
  rfl
theorem n147 (h : Has P L 147 c147) {n : Int} (hn : -9223372036854775808 < n ∧ n < 9223372036854775808) : Ans P L 147 [Nm n] (Nm (-n)) := by
  unfold Ans; rw [call_eq h]
  simp only [go_sem, Nat.reduceEqDiff, Nat.reduceAdd, Nat.reduceLeDiff, c147, boxV_n, stC_Nm, eq_nils, eqB'_f, off_ptr, Nat.zero_add, drop1, show ¬ n = -9223372036854775808 by omega, wrap64 (n := 0 - n) (by omega) (by omega)]
  simp only [Int.zero_sub]
  rfl
theorem n146 (h : Has P L 146 c146) (n : Int) : Ans P L 146 [Nm n] (I64 (sgn n)) := by
  unfold Ans; rw [call_eq h]
  simp only [go_sem, Nat.reduceEqDiff, Nat.reduceAdd, c146, boxV_n, off_ptr, Nat.zero_add, op_mn2, op_mx2, min2_int, max2_int, sgn_eq]
theorem eq_bb (hp : Hp) (p q : Bool) : eqOp .b (.bool p) (.bool q) = some (p == q) := rfl
theorem n119 (h : Has P L 119 c119) {a b : Int} (ha : -4611686018427387904 < a ∧ a < 4611686018427387904) (hb : -4611686018427387904 < b ∧ b < 4611686018427387904) : Ans P L 119 [Nm a, Nm b] (Nm (a + b)) := by
  unfold Ans; rw [call_eq h]
  have e : decide (a < a + b) = decide (0 < b) := by
    by_cases h : 0 < b
    · simp only [h, decide_true]; exact decide_eq_true (by omega)
    · simp only [h, decide_false]; exact decide_eq_false (by omega)
  simp only [go_sem, Nat.reduceEqDiff, Nat.reduceAdd, Nat.reduceLeDiff, c119, boxV_n, stC_Nm, eq_nils, eqB'_f, eq_bb, off_ptr, Nat.zero_add, drop1, wrap64 (n := a + b) (by omega) (by omega), e, beq_self_eq_true]
  rfl
end
end VE
end
section
set_option maxRecDepth 100000
namespace VE
open Go (IntKind)
section
variable {P : Prog} {L : Lib}
theorem call_lib {n : Nat} {sp : List AV → Option AV} (h : L.pure n = some sp) {f : Run} (vals : List AV) : callPure P L f n vals = sp vals := by simp only [callPure, h]
abbrev U64 (n : Int) : AV := .int .u64 n
theorem wrapU {n : Int} (h1 : 0 ≤ n) (h2 : n < 18446744073709551616) : IntKind.wrap .u64 n = n := by
  simp only [IntKind.wrap, IntKind.signed, IntKind.bits]
  have : n % 2 ^ 64 = n := Int.emod_eq_of_lt h1 (by omega)
  rw [show ((2 : Int) ^ 64) = 18446744073709551616 from rfl] at this
  simpa using this
theorem cv_u64 (n : Int) : cvOp (.toInt .u64) (I64 n) = some (U64 (IntKind.wrap .u64 n)) := rfl
theorem cv_i64 (n : Int) : cvOp (.toInt .i64) (U64 n) = some (I64 (IntKind.wrap .i64 n)) := rfl
theorem eqB'_t (b : Bool) : eqB' true (some b) = some (.bool (!b)) := by cases b <;> rfl
theorem over_2 (a b c d : AV) : over 0 [a, b] [c, d] = [a, b] := rfl
theorem ld1_2 (a b : AV) (r : List AV) : ld1 2 true (a :: b :: r) = some (.agg [a, b]) := rfl
theorem ld1_4 (a b c d : AV) (r : List AV) : ld1 4 true (a :: b :: c :: d :: r) = some (.agg [a, b, c, d]) := rfl
theorem n142 (h : Has P L 142 c142) {n : Int} (hn : -9223372036854775808 < n ∧ n < 9223372036854775808) : Ans P L 142 [I64 n] (U64 n.natAbs) := by
  unfold Ans; rw [call_eq h]
  by_cases h0 : n < 0
  · simp only [go_sem, Nat.reduceEqDiff, c142, h0, cv_u64, wrap64 (n := 0 - n) (by omega) (by omega), wrapU (n := 0 - n) (by omega) (by omega)]
    rw [show 0 - n = (n.natAbs : Int) by omega]
  · simp only [go_sem, Nat.reduceEqDiff, c142, h0, cv_u64, wrapU (n := n) (by omega) (by omega)]
    rw [show n = (n.natAbs : Int) by omega]
    rfl
theorem mul64_small {x y : Nat} (hx : x < 18446744073709551616) (hy : y < 18446744073709551616) (h : x * y < 18446744073709551616) : mul64S [U64 x, U64 y] = some (.tup [U64 0, U64 (x * y : Nat)]) := by
  show (bif Nat.blt x 18446744073709551616 && Nat.blt y 18446744073709551616 then _ else none) = _
  rw [show Nat.blt x 18446744073709551616 = true from Nat.ble_eq_true_of_le (by omega), show Nat.blt y 18446744073709551616 = true from Nat.ble_eq_true_of_le (by omega)]
  simp only [Bool.and_self, cond_true, Nat.div_eq_of_lt h, Nat.mod_eq_of_lt h]
  rfl
theorem n100 (h : Has P L 100 c100) (h142 : Has P L 142 c142) (h143 : L.pure 143 = some mul64S) {a b : Int} (ha : -4611686018427387904 < a ∧ a < 4611686018427387904) (hb : -4611686018427387904 < b ∧ b < 4611686018427387904) (hm : a.natAbs * b.natAbs < 4611686018427387904) : Ans P L 100 [Nm a, Nm b] (Nm (a * b)) := by
  have e1 := n142 h142 (n := a) (by omega)
  have e2 := n142 h142 (n := b) (by omega)
  have e3 : callPure P L (D P L) 143 [U64 a.natAbs, U64 b.natAbs] = some (.tup [U64 0, U64 (a.natAbs * b.natAbs : Nat)]) := by
    rw [call_lib h143]; exact mul64_small (by omega) (by omega) (by omega)
  unfold Ans at e1 e2 ⊢; rw [call_eq h]
  have key : ∃ m : Nat, a.natAbs * b.natAbs = m := ⟨_, rfl⟩
  obtain ⟨m, hm'⟩ := key
  rw [hm'] at e3 hm
  by_cases hs : (decide (a < 0) == decide (b < 0)) = true
  · have e5 : a * b = (m : Int) := by
      have : decide (a < 0) = decide (b < 0) := eq_of_beq hs
      have hab : (a < 0) = (b < 0) := by simpa using this
      rw [← hm']
      by_cases h1 : a < 0
      · have h2 : b < 0 := hab ▸ h1
        rw [Int.natCast_mul, show (a.natAbs : Int) = -a by omega, show (b.natAbs : Int) = -b by omega, Int.neg_mul_neg]
      · have h2 : ¬ b < 0 := hab ▸ h1
        rw [Int.natCast_mul, show (a.natAbs : Int) = a by omega, show (b.natAbs : Int) = b by omega]
    rw [e5]
    simp only [go_sem, Nat.reduceEqDiff, Nat.reduceAdd, Nat.reduceLeDiff, c100, boxV_n, stC_Nm, eq_nils, eqB'_f, eqB'_t, Bool.not_true, eq_bb, off_ptr, Nat.zero_add, drop1, e1, e2, e3, show (m : Int) ≤ 9223372036854775807 by omega, hs, cv_i64, wrap64 (n := (m : Int)) (by omega) (by omega)]
    rfl
  · have hs : (decide (a < 0) == decide (b < 0)) = false := by simpa using hs
    have e5 : a * b = 0 - (m : Int) := by
      rw [← hm']
      by_cases h1 : a < 0
      · have h2 : ¬ b < 0 := fun h2 => by simp [h1, h2] at hs
        rw [Int.natCast_mul, show (a.natAbs : Int) = -a by omega, show (b.natAbs : Int) = b by omega, Int.neg_mul]; omega
      · have h2 : b < 0 := by
          by_cases h2 : b < 0
          · exact h2
          · simp [h1, h2] at hs
        rw [Int.natCast_mul, show (a.natAbs : Int) = a by omega, show (b.natAbs : Int) = -b by omega, Int.mul_neg]; omega
    rw [e5]
    simp only [go_sem, Nat.reduceEqDiff, Nat.reduceAdd, Nat.reduceLeDiff, c100, boxV_n, stC_Nm, eq_nils, eqB'_f, eqB'_t, Bool.not_false, eq_bb, off_ptr, Nat.zero_add, drop1, e1, e2, e3, show (m : Int) ≤ 9223372036854775807 by omega, hs, cv_i64, wrap64 (n := (m : Int)) (by omega) (by omega), wrap64 (n := 0 - (m : Int)) (by omega) (by omega)]
    rfl
theorem n163 (h : Has P L 163 c163) (h147 : Has P L 147 c147) {n : Int} (hn : -9223372036854775808 < n ∧ n < 9223372036854775808) : Ans P L 163 [Nm n] (Nm n.natAbs) := by
  have e1 := n147 h147 hn
  unfold Ans at e1 ⊢; rw [call_eq h]
  by_cases h0 : n < 0
  · simp only [go_sem, Nat.reduceEqDiff, Nat.reduceAdd, c163, boxV_n, stC_Nm, off_ptr, Nat.zero_add, h0, ld1_2, frz_agg0, e1]
    rw [show -n = (n.natAbs : Int) by omega]
    rfl
  · simp only [go_sem, Nat.reduceEqDiff, Nat.reduceAdd, c163, boxV_n, stC_Nm, off_ptr, Nat.zero_add, h0, ld1_2]
    rw [show ((n.natAbs : Nat) : Int) = n by omega]
    rfl
theorem floor_div {a b : Int} (hb : 0 < b) : (a.tmod b < 0 → a / b = a.tdiv b - 1 ∧ a % b = a.tmod b + b) ∧ (¬ a.tmod b < 0 → a / b = a.tdiv b ∧ a % b = a.tmod b) := by
  have h1 := Int.mul_tdiv_add_tmod a b
  have h2 : a.tmod b < b := Int.tmod_lt_of_pos a hb
  have h3 : -b < a.tmod b := Int.lt_tmod_of_pos a hb
  refine ⟨fun h => (Int.ediv_emod_unique hb).2 ⟨?_, ?_, ?_⟩, fun h => (Int.ediv_emod_unique hb).2 ⟨?_, ?_, ?_⟩⟩
  · rw [Int.mul_sub, Int.mul_one]; omega
  · omega
  · omega
  · omega
  · omega
  · omega
theorem n164 (h : Has P L 164 c164) {a b : Int} (ha : -4611686018427387904 < a ∧ a < 4611686018427387904) (hb : 0 < b ∧ b < 4611686018427387904) : Ans P L 164 [Nm a, Nm b] (.tup [Nm (a / b), Nm (a % b)]) := by
  obtain ⟨f1, f2⟩ := floor_div (a := a) hb.1
  have hq : -4611686018427387904 < a.tdiv b ∧ a.tdiv b < 4611686018427387904 := by
    have := Int.natAbs_tdiv_le_natAbs a b
    omega
  have hr : -4611686018427387904 < a.tmod b ∧ a.tmod b < 4611686018427387904 := by
    have := Int.tmod_lt_of_pos a hb.1
    have := Int.lt_tmod_of_pos a hb.1
    omega
  unfold Ans; rw [call_eq h]
  by_cases h0 : a.tmod b < 0
  · obtain ⟨g1, g2⟩ := f1 h0
    rw [g1, g2]
    simp only [go_sem, Nat.reduceEqDiff, Nat.reduceAdd, Nat.reduceLeDiff, c164, boxV_n, stC_Nm, eq_nils, eqB'_f, off_ptr, Nat.zero_add, drop1, show ¬ a = -9223372036854775808 by omega, bin_quo _ _ _ (show b ≠ 0 by omega), bin_rem _ _ _ (show b ≠ 0 by omega), h0, wrap64 (n := a.tdiv b) (by omega) (by omega), wrap64 (n := a.tdiv b - 1) (by omega) (by omega), wrap64 (n := a.tmod b + b) (by omega) (by omega)]
    rfl
  · obtain ⟨g1, g2⟩ := f2 h0
    rw [g1, g2]
    simp only [go_sem, Nat.reduceEqDiff, Nat.reduceAdd, Nat.reduceLeDiff, c164, boxV_n, stC_Nm, eq_nils, eqB'_f, off_ptr, Nat.zero_add, drop1, show ¬ a = -9223372036854775808 by omega, bin_quo _ _ _ (show b ≠ 0 by omega), bin_rem _ _ _ (show b ≠ 0 by omega), h0, wrap64 (n := a.tdiv b) (by omega) (by omega)]
    rfl
theorem n148 (h : Has P L 148 c148) (h146 : Has P L 146 c146) (h164 : Has P L 164 c164) {a b : Int} (ha : -4611686018427387904 < a ∧ a < 4611686018427387904) (hb : 0 < b ∧ b < 4611686018427387904) : Ans P L 148 [Nm a, Nm b] (Nm (a / b)) := by
  have e1 := n146 h146 b
  have e2 := n164 h164 ha hb
  have e3 : sgn b = 1 := by unfold sgn; rw [if_neg (by omega), if_neg (by omega)]
  rw [e3] at e1
  unfold Ans at e1 e2 ⊢; rw [call_eq h]
  simp only [go_sem, Nat.reduceEqDiff, Nat.reduceAdd, c148, Int.reduceLT, decide_false, boxV_n, stC_Nm, Nat.zero_add, ld1_2, frz_agg0, e1, e2, shut1_agg]
  rfl
theorem gcd_step (a b : Nat) (hb : b ≠ 0) : Nat.gcd b (a % b) = Nat.gcd a b := by
  rw [Nat.gcd_comm b, ← Nat.gcd_rec, Nat.gcd_comm]
theorem n130_0 (h146 : Has P L 146 c146) (h164 : Has P L 164 c164) (G : Nat) :
    ∀ k s, (∃ x y : Nat, compact [2, 3, 4] s = ⟨[(2, .ptr 0 0), (3, .ptr 1 0), (4, .ptr 2 0)], [(2, .cells true true true 2 [I64 0, .nils]), (1, .cells true true true 2 [I64 y, .nils]), (0, .cells true true true 2 [I64 x, .nils])], 3, 0⟩ ∧ x < 4611686018427387904 ∧ y < 4611686018427387904 ∧ Nat.gcd x y = G ∧ y = k) →
      ∃ ex s', D P L (.loop [2, 3, 4] c130_0) s = some (ex, s') ∧ ∃ tm, s' = ⟨tm, [(2, .cells true true true 2 [I64 0, .nils]), (1, .cells true true true 2 [I64 0, .nils]), (0, .cells true true true 2 [I64 G, .nils])], 3, 0⟩ ∧ ex = .exit 0 ∧ tget tm 2 = .ptr 0 0 ∧ tget tm 4 = .ptr 2 0 := by
  refine loop_can (I := fun k s => ∃ x y : Nat, s = ⟨[(2, .ptr 0 0), (3, .ptr 1 0), (4, .ptr 2 0)], [(2, .cells true true true 2 [I64 0, .nils]), (1, .cells true true true 2 [I64 y, .nils]), (0, .cells true true true 2 [I64 x, .nils])], 3, 0⟩ ∧ x < 4611686018427387904 ∧ y < 4611686018427387904 ∧ Nat.gcd x y = G ∧ y = k)
    (Q := fun ex s' => ∃ tm, s' = ⟨tm, [(2, .cells true true true 2 [I64 0, .nils]), (1, .cells true true true 2 [I64 0, .nils]), (0, .cells true true true 2 [I64 G, .nils])], 3, 0⟩ ∧ ex = .exit 0 ∧ tget tm 2 = .ptr 0 0 ∧ tget tm 4 = .ptr 2 0) ?_
  rintro k s ⟨x, y, rfl, hx, hy, hG, rfl⟩
  have e1 := n146 h146 (y : Int)
  by_cases hy0 : y = 0
  · right
    subst hy0
    have e3 : sgn ((0 : Nat) : Int) = 0 := rfl
    rw [e3] at e1
    unfold Ans at e1
    simp only [go_sem, Nat.reduceEqDiff, c130_0, decide_true, Bool.not_true, ld1_2, frz_agg0, e1]
    obtain rfl : x = G := by rw [← hG, Nat.gcd_zero_right]
    exact ⟨_, _, rfl, by simp, _, rfl, rfl, by simp only [go_sem, Nat.reduceEqDiff], by simp only [go_sem, Nat.reduceEqDiff]⟩
  · left
    have e3 : sgn (y : Int) = 1 := by unfold sgn; rw [if_neg (by omega), if_neg (by omega)]
    rw [e3] at e1
    have e2 := n164 h164 (a := x) (b := y) (by omega) (by omega)
    rw [show ((x : Int) % (y : Int)) = ((x % y : Nat) : Int) from rfl] at e2
    unfold Ans at e1 e2
    have hlt := Nat.mod_lt x (show 0 < y by omega)
    simp only [go_sem, Nat.reduceEqDiff, Nat.reduceAdd, c130_0, Int.reduceEq, decide_false, Bool.not_false, boxV_n, stC_Nm, ld1_2, frz_agg0, e1, e2, shut1_agg]
    refine ⟨_, x % y, rfl, hlt, y, x % y, ?_, hy, by omega, by rw [← hG]; exact gcd_step x y hy0, rfl⟩
    simp only [go_sem, Nat.reduceEqDiff, Nat.reduceAdd, compact0, over_2, Bool.true_and]
theorem n130 (h : Has P L 130 c130) (h163 : Has P L 163 c163) (h147 : Has P L 147 c147) (h146 : Has P L 146 c146) (h164 : Has P L 164 c164) {a b : Int} (ha : -4611686018427387904 < a ∧ a < 4611686018427387904) (hb : -4611686018427387904 < b ∧ b < 4611686018427387904) : Ans P L 130 [Nm a, Nm b] (Nm (Int.gcd a b : Nat)) := by
  have e1 := n163 h163 h147 (n := a) (by omega)
  have e2 := n163 h163 h147 (n := b) (by omega)
  unfold Ans at e1 e2 ⊢; rw [call_eq h]
  simp only [go_sem, Nat.reduceEqDiff, Nat.reduceAdd, c130, boxV_n, stC_Nm, ld1_2, frz_agg0, e1, e2, shut_agg, Nat.zero_add]
  generalize hq : D P L (.loop [2, 3, 4] c130_0) _ = q
  obtain ⟨ex, s, rfl, tm, rfl, rfl, h2, h4⟩ := of_key hq (n130_0 (P := P) (L := L) h146 h164 (Int.gcd a b) b.natAbs) ⟨a.natAbs, b.natAbs, by simp only [go_sem, Nat.reduceEqDiff, Nat.reduceAdd, compact0], by omega, by omega, rfl, rfl⟩
  simp only [go_sem, Nat.reduceEqDiff, Nat.reduceAdd, compact0, h2, h4, stC_Nm, ld1_2]
  rfl
abbrev Fq (n d : Int) : AV := .agg [I64 n, .nils, I64 d, .nils]
theorem stC_Fq (hp : Hp) (ct id : Nat) (a b : Int) (x y z w : AV) : stC hp ct id 0 4 [.int .i64 a, .nils, .int .i64 b, .nils] (some (.cells true true true 4 [x, y, z, w])) = some (.tup [], hset hp id (.cells true true true 4 [.int .i64 a, .nils, .int .i64 b, .nils]), ct) := rfl
theorem fill_a (tm : Env) (x y z w : AV) (a : Int) (r : List (Nat × Nat × X)) : fillC tm [x, y, z, w] 0 2 [.int .i64 a, .nils] r = fill tm [.int .i64 a, .nils, z, w] r := rfl
theorem fill_b (tm : Env) (x y z w : AV) (a : Int) (r : List (Nat × Nat × X)) : fillC tm [x, y, z, w] 2 2 [.int .i64 a, .nils] r = fill tm [x, y, .int .i64 a, .nils] r := rfl
theorem n101 (h : Has P L 101 c101) (h148 : Has P L 148 c148) (h130 : Has P L 130 c130) (h163 : Has P L 163 c163) (h147 : Has P L 147 c147) (h146 : Has P L 146 c146) (h164 : Has P L 164 c164) {a b : Int} (ha : -4611686018427387904 < a ∧ a < 4611686018427387904) (hb : 0 < b ∧ b < 4611686018427387904) :
    Ans P L 101 [Nm a, Nm b] (Fq (a / (Int.gcd a b : Nat)) (b / (Int.gcd a b : Nat))) := by
  have e1 := n146 h146 b
  have e3 : sgn b = 1 := by unfold sgn; rw [if_neg (by omega), if_neg (by omega)]
  rw [e3] at e1
  have e2 := n130 h130 h163 h147 h146 h164 ha (b := b) (by omega)
  have hg : (0 : Int) < (Int.gcd a b : Nat) := by
    have := Int.gcd_pos_of_ne_zero_right a (show b ≠ 0 by omega)
    omega
  have hg2 : ((Int.gcd a b : Nat) : Int) < 4611686018427387904 := by
    have := Int.gcd_le_natAbs_right a (show b ≠ 0 by omega)
    omega
  have e4 := n148 h148 h146 h164 ha (b := (Int.gcd a b : Nat)) ⟨hg, hg2⟩
  have e5 := n148 h148 h146 h164 (a := b) (b := (Int.gcd a b : Nat)) (by omega) ⟨hg, hg2⟩
  unfold Ans at e1 e2 e4 e5 ⊢; rw [call_eq h]
  by_cases hb1 : b = 1
  · subst hb1
    rw [Int.gcd_one]
    simp only [go_sem, Nat.reduceEqDiff, Nat.reduceAdd, c101, Int.reduceLT, decide_false, decide_true, boxV_n, stC_Fq, ld1_2, frz_agg0, e1, off_ptr, Nat.zero_add, drop1, eq_nils, eqB'_f, fill_a, fill_b]
    rw [show a / ((1 : Nat) : Int) = a from Int.ediv_one a]
    rfl
  · simp only [go_sem, Nat.reduceEqDiff, Nat.reduceAdd, c101, Int.reduceLT, decide_false, boxV_n, stC_Nm, stC_Fq, ld1_2, frz_agg0, e1, off_ptr, Nat.zero_add, drop1, eq_nils, eqB'_f, hb1, e2, e4, e5, shut_agg, fill_a, fill_b]
    rfl
theorem n98 (h : Has P L 98 c98) (n d : Int) : Ans P L 98 [Fq n d] (.bool (decide (d = 1))) := by
  unfold Ans; rw [call_eq h]
  simp only [go_sem, Nat.reduceEqDiff, Nat.reduceAdd, c98, boxV_n, off_ptr, Nat.zero_add, drop2, drop3, eq_nils, eqB'_f]
end
end VE
end
