import Derived.Test.YteioemjpepbdgaaGreatDoorNumA
import Derived.Test.YteioemjpepbdgaaGreatDoorRefA
set_option linter.all false
set_option maxRecDepth 100000
namespace VE
open Go (IntKind)
abbrev frac (a b : Int) : AV := Fq (rnum a b) (rden a b)
theorem rnum_one (a : Int) : rnum a 1 = a := by unfold rnum; rw [Int.gcd_one]; exact Int.ediv_one a
theorem rden_one (a : Int) : rden a 1 = 1 := by unfold rden; rw [Int.gcd_one]; rfl
theorem frac_one (a : Int) : frac a 1 = Fq a 1 := by rw [frac, rnum_one, rden_one]
theorem frac_eq {a b c d : Int} (hb : 0 < b) (hd : 0 < d) (h : a * d = c * b) : frac a b = frac c d := by
  obtain ⟨h1, h2⟩ := r_eq hb hd h
  rw [frac, h1, h2]
section
variable {P : Prog} {L : Lib}
structure Na (P : Prog) (L : Lib) : Prop where
  h100 : Has P L 100 c100
  h101 : Has P L 101 c101
  h102 : Has P L 102 c102
  h111 : Has P L 111 c111
  h117 : Has P L 117 c117
  h119 : Has P L 119 c119
  h130 : Has P L 130 c130
  h142 : Has P L 142 c142
  h146 : Has P L 146 c146
  h147 : Has P L 147 c147
  h148 : Has P L 148 c148
  h163 : Has P L 163 c163
  h164 : Has P L 164 c164
  h46 : Has P L 46 c46
  h49 : Has P L 49 c49
  h50 : Has P L 50 c50
  h69 : Has P L 69 c69
  h70 : Has P L 70 c70
  h73 : Has P L 73 c73
  h74 : Has P L 74 c74
  h98 : Has P L 98 c98
  h99 : Has P L 99 c99
  l143 : L.pure 143 = some mul64S
  l135 : L.pure 135 = some itoaS
theorem n111 (h : Na P L) (n : Int) : Ans P L 111 [Nm n] (Fq n 1) := by
  have e1 := n117 h.h117 1
  unfold Ans at e1 ⊢; rw [call_eq h.h111]
  simp only [go_sem, Nat.reduceEqDiff, Nat.reduceAdd, c111, boxV_n, stC_Fq, ld1_2, e1, shut_agg, fill_a, fill_b]
  rfl
theorem n69 (h : Na P L) (n : Int) : Ans P L 69 [I64 n] (Fq n 1) := by
  have e1 := n117 h.h117 n
  have e2 := n111 h n
  unfold Ans at e1 e2 ⊢; rw [call_eq h.h69]
  simp only [go_sem, Nat.reduceEqDiff, Nat.reduceAdd, c69, boxV_n, stC_Fq, frz_agg0, e1, e2, shut_agg]
  rfl
theorem make (h : Na P L) {a b : Int} (ha : -4611686018427387904 < a ∧ a < 4611686018427387904) (hb : 0 < b ∧ b < 4611686018427387904) : Ans P L 101 [Nm a, Nm b] (frac a b) :=
  n101 h.h101 h.h148 h.h130 h.h163 h.h147 h.h146 h.h164 ha hb
theorem n49 (h : Na P L) {a b c d : Int} (hb : 0 < b) (hd : 0 < d) (h1 : (rnum a b).natAbs * (rnum c d).natAbs < 4611686018427387904) (h2 : (rden a b).natAbs * (rden c d).natAbs < 4611686018427387904)
    (q1 : (rnum a b).natAbs < 4611686018427387904) (q2 : (rnum c d).natAbs < 4611686018427387904) (q3 : (rden a b).natAbs < 4611686018427387904) (q4 : (rden c d).natAbs < 4611686018427387904) :
    Ans P L 49 [frac a b, frac c d] (frac (a * c) (b * d)) := by
  have p1 := rden_pos (a := a) hb
  have p2 := rden_pos (a := c) hd
  have p3 := Int.mul_pos p1 p2
  have e1 := n100 h.h100 h.h142 h.l143 (a := rnum a b) (b := rnum c d) (by omega) (by omega) h1
  have e2 := n100 h.h100 h.h142 h.l143 (a := rden a b) (b := rden c d) (by omega) (by omega) h2
  have m1 : (rnum a b * rnum c d).natAbs < 4611686018427387904 := by rw [Int.natAbs_mul]; exact h1
  have m2 : (rden a b * rden c d).natAbs < 4611686018427387904 := by rw [Int.natAbs_mul]; exact h2
  have e3 := make h (a := rnum a b * rnum c d) (b := rden a b * rden c d) (by omega) (by omega)
  have e4 : frac (rnum a b * rnum c d) (rden a b * rden c d) = frac (a * c) (b * d) := by
    refine frac_eq p3 (Int.mul_pos hb hd) ?_
    have x1 := num_eq a b
    have x2 := den_eq a b
    have x3 := num_eq c d
    have x4 := den_eq c d
    generalize rnum a b = A at *
    generalize rden a b = B at *
    generalize rnum c d = C at *
    generalize rden c d = E at *
    generalize ((Int.gcd a b : Nat) : Int) = g at *
    generalize ((Int.gcd c d : Nat) : Int) = k at *
    rw [x1, x2, x3, x4]
    ac_rfl
  rw [← e4]
  unfold Ans at e1 e2 e3 ⊢; rw [call_eq h.h49]
  simp only [go_sem, Nat.reduceEqDiff, Nat.reduceAdd, c49, boxV_n, stC_Fq, ld1_2, frz_agg0, e1, e2, e3, shut_agg, off_ptr, Nat.zero_add, drop2]
  rfl
theorem n49' (h : Na P L) {a b c d : Int} (hb : 0 < b) (hd : 0 < d) (h1 : a.natAbs * c.natAbs < 4611686018427387904) (h2 : b.natAbs * d.natAbs < 4611686018427387904)
    (q1 : a.natAbs < 4611686018427387904) (q2 : c.natAbs < 4611686018427387904) (q3 : b.natAbs < 4611686018427387904) (q4 : d.natAbs < 4611686018427387904) :
    Ans P L 49 [frac a b, frac c d] (frac (a * c) (b * d)) :=
  n49 h hb hd (Nat.lt_of_le_of_lt (Nat.mul_le_mul (rnum_abs a b) (rnum_abs c d)) h1) (Nat.lt_of_le_of_lt (Nat.mul_le_mul (rden_abs a b) (rden_abs c d)) h2)
    (Nat.lt_of_le_of_lt (rnum_abs a b) q1) (Nat.lt_of_le_of_lt (rnum_abs c d) q2) (Nat.lt_of_le_of_lt (rden_abs a b) q3) (Nat.lt_of_le_of_lt (rden_abs c d) q4)
theorem rnum_pos {a b : Int} (ha : 0 < a) (hb : 0 < b) : 0 < rnum a b := by
  have h1 := gcd_pos (a := a) hb
  have h2 := num_eq a b
  rcases Int.lt_trichotomy (rnum a b) 0 with h | h | h
  · have := Int.mul_neg_of_pos_of_neg h1 h; omega
  · rw [h, Int.mul_zero] at h2; omega
  · exact h
theorem n73 (h : Na P L) {a b : Int} (ha : 0 < a ∧ a < 4611686018427387904) (hb : 0 < b ∧ b < 4611686018427387904) : Ans P L 73 [frac a b] (frac b a) := by
  have r1 := rnum_abs a b
  have r2 := rden_abs a b
  have p1 := rnum_pos ha.1 hb.1
  have p2 := rden_pos (a := a) hb.1
  have e3 := make h (a := rden a b) (b := rnum a b) (by omega) (by omega)
  have e4 : frac (rden a b) (rnum a b) = frac b a := by
    refine frac_eq p1 ha.1 ?_
    have x1 := num_eq a b
    have x2 := den_eq a b
    generalize rnum a b = A at *
    generalize rden a b = B at *
    generalize ((Int.gcd a b : Nat) : Int) = g at *
    rw [x1, x2]
    ac_rfl
  rw [← e4]
  unfold Ans at e3 ⊢; rw [call_eq h.h73]
  simp only [go_sem, Nat.reduceEqDiff, Nat.reduceAdd, c73, boxV_n, stC_Fq, ld1_2, frz_agg0, e3, shut_agg, off_ptr, Nat.zero_add, drop2]
  rfl
theorem n70 (h : Na P L) {a c : Int} (ha : a.natAbs < 2147483648) (hc : 0 < c ∧ c < 2147483648) : Ans P L 70 [Fq a 1, Fq c 1] (frac a c) := by
  have e1 := n73 h (a := c) (b := 1) (by omega) (by decide)
  have e2 := n49' h (a := a) (b := 1) (c := 1) (d := c) (by decide) hc.1 (by simp; omega) (by simp; omega) (by omega) (by decide) (by decide) (by omega)
  rw [Int.mul_one, Int.one_mul, frac_one] at e2
  rw [frac_one] at e1
  unfold Ans at e1 e2 ⊢; rw [call_eq h.h70]
  simp only [go_sem, Nat.reduceEqDiff, Nat.reduceAdd, c70, boxV_n, stC_Fq, ld1_4, frz_agg0, e1, e2, shut_agg]
  rfl
theorem n102 (h : Na P L) {a b : Int} (ha : a.natAbs < 4611686018427387904) : Ans P L 102 [frac a b] (Fq (-(rnum a b)) (rden a b)) := by
  have r1 := rnum_abs a b
  have e1 := n147 h.h147 (n := rnum a b) (by omega)
  unfold Ans at e1 ⊢; rw [call_eq h.h102]
  simp only [go_sem, Nat.reduceEqDiff, Nat.reduceAdd, c102, boxV_n, stC_Fq, ld1_2, frz_agg0, e1, shut_agg, off_ptr, Nat.zero_add, drop2, fill_a, fill_b]
  rfl
theorem frac_neg (a b : Int) : Fq (-(rnum a b)) (rden a b) = frac (-a) b := by
  have h1 : rnum (-a) b = -(rnum a b) := by
    unfold rnum
    rw [Int.neg_gcd, Int.neg_ediv_of_dvd (Int.gcd_dvd_left a b)]
  have h2 : rden (-a) b = rden a b := by unfold rden; rw [Int.neg_gcd]
  rw [frac, h1, h2]
theorem n99 (h : Na P L) {n : Int} (hn : -9223372036854775808 < n ∧ n < 9223372036854775808) : Ans P L 99 [Nm n] (.str (intS n)) := by
  have e : callPure P L (D P L) 135 [I64 n] = some (.str (intS n)) := by
    rw [call_lib h.l135]
    have : inI64 n = true := by
      cases n with
      | ofNat k =>
        have h2 : (k : Int) < 9223372036854775808 := hn.2
        exact Nat.ble_eq_true_of_le (show k + 1 ≤ 9223372036854775808 by omega)
      | negSucc k =>
        rw [Int.negSucc_eq] at hn
        exact Nat.ble_eq_true_of_le (show k + 1 ≤ 9223372036854775808 by omega)
    show (bif inI64 n then _ else none) = _
    rw [this]; rfl
  unfold Ans; rw [call_eq h.h99]
  simp only [go_sem, Nat.reduceEqDiff, Nat.reduceAdd, c99, boxV_n, eq_nils, eqB'_f, off_ptr, Nat.zero_add, drop1, e]
theorem n46 (h : Na P L) {a b : Int} (ha : a.natAbs < 4611686018427387904) (hb : 0 < b ∧ b < 4611686018427387904) : Ans P L 46 [frac a b] (.str (ratT a b)) := by
  have r1 := rnum_abs a b
  have r2 := rden_abs a b
  have e1 := n98 h.h98 (rnum a b) (rden a b)
  have e2 := n99 h (n := rnum a b) (by omega)
  have e3 := n99 h (n := rden a b) (by omega)
  have l2 := intS_len (n := rnum a b) (by omega)
  have l3 := intS_len (n := rden a b) (by omega)
  unfold Ans at e1 e2 e3 ⊢; rw [call_eq h.h46]
  by_cases h1 : rden a b = 1
  · have hT : ratT a b = intS (rnum a b) := by unfold ratT; rw [if_pos h1]
    rw [h1] at e1
    rw [hT]
    simp only [go_sem, Nat.reduceEqDiff, Nat.reduceAdd, c46, boxV_n, ld1_2, ld1_4, frz_agg0, e1, h1, decide_true, off_ptr, Nat.zero_add, e2]
  · have hT : ratT a b = (intS (rnum a b) ++ [47]) ++ intS (rden a b) := by unfold ratT; rw [if_neg h1]
    rw [hT]
    simp only [go_sem, Nat.reduceEqDiff, Nat.reduceAdd, c46, boxV_n, ld1_2, ld1_4, frz_agg0, e1, h1, decide_false, off_ptr, Nat.zero_add, drop2, e2, str_add (a := intS (rnum a b)) (b := [47]) (by simp; omega), e3, str_add (a := intS (rnum a b) ++ [47]) (b := intS (rden a b)) (by simp; omega)]
theorem n74 (h : Na P L) {a b c d : Int} (hb : 0 < b) (hd : 0 < d) (h1 : a.natAbs * d.natAbs < 1152921504606846976) (h2 : c.natAbs * b.natAbs < 1152921504606846976) (h3 : b.natAbs * d.natAbs < 1152921504606846976)
    (q1 : a.natAbs < 1152921504606846976) (q2 : c.natAbs < 1152921504606846976) (q3 : b.natAbs < 1152921504606846976) (q4 : d.natAbs < 1152921504606846976) :
    Ans P L 74 [frac a b, frac c d] (frac (a * d + c * b) (b * d)) := by
  have p1 := rden_pos (a := a) hb
  have p2 := rden_pos (a := c) hd
  have p3 := Int.mul_pos p1 p2
  have r1 := rnum_abs a b
  have r2 := rden_abs a b
  have r3 := rnum_abs c d
  have r4 := rden_abs c d
  have f1 := n98 h.h98 (rnum a b) (rden a b)
  have f2 := n98 h.h98 (rnum c d) (rden c d)
  have g1 : (rnum a b).natAbs * (rden c d).natAbs < 1152921504606846976 := Nat.lt_of_le_of_lt (Nat.mul_le_mul r1 r4) h1
  have g2 : (rnum c d).natAbs * (rden a b).natAbs < 1152921504606846976 := Nat.lt_of_le_of_lt (Nat.mul_le_mul r3 r2) h2
  have g3 : (rden a b).natAbs * (rden c d).natAbs < 1152921504606846976 := Nat.lt_of_le_of_lt (Nat.mul_le_mul r2 r4) h3
  have m1 : (rnum a b * rden c d).natAbs < 1152921504606846976 := by rw [Int.natAbs_mul]; exact g1
  have m2 : (rnum c d * rden a b).natAbs < 1152921504606846976 := by rw [Int.natAbs_mul]; exact g2
  have m3 : (rden a b * rden c d).natAbs < 1152921504606846976 := by rw [Int.natAbs_mul]; exact g3
  have e4 : frac (rnum a b * rden c d + rnum c d * rden a b) (rden a b * rden c d) = frac (a * d + c * b) (b * d) := by
    refine frac_eq p3 (Int.mul_pos hb hd) ?_
    have x1 := num_eq a b
    have x2 := den_eq a b
    have x3 := num_eq c d
    have x4 := den_eq c d
    generalize rnum a b = A at *
    generalize rden a b = B at *
    generalize rnum c d = C at *
    generalize rden c d = E at *
    generalize ((Int.gcd a b : Nat) : Int) = g at *
    generalize ((Int.gcd c d : Nat) : Int) = k at *
    rw [x1, x2, x3, x4, Int.add_mul, Int.add_mul]
    congr 1
    · ac_rfl
    · ac_rfl
  rw [← e4]
  by_cases w : rden a b = 1 ∧ rden c d = 1
  · obtain ⟨w1, w2⟩ := w
    have s1 := n119 h.h119 (a := rnum a b) (b := rnum c d) (by omega) (by omega)
    have s2 := n111 h (rnum a b + rnum c d)
    rw [w1] at f1
    rw [w2] at f2
    rw [w1, w2, Int.mul_one, Int.mul_one, Int.mul_one, frac_one]
    rw [frac, frac, w1, w2]
    unfold Ans at f1 f2 s1 s2 ⊢; rw [call_eq h.h74]
    simp only [go_sem, Nat.reduceEqDiff, Nat.reduceAdd, c74, boxV_n, stC_Fq, ld1_2, ld1_4, frz_agg0, f1, f2, decide_true, off_ptr, Nat.zero_add, s1, s2, shut_agg]
    rfl
  · have e1 := n100 h.h100 h.h142 h.l143 (a := rnum a b) (b := rden c d) (by omega) (by omega) (by omega)
    have e2 := n100 h.h100 h.h142 h.l143 (a := rnum c d) (b := rden a b) (by omega) (by omega) (by omega)
    have e3 := n100 h.h100 h.h142 h.l143 (a := rden a b) (b := rden c d) (by omega) (by omega) (by omega)
    have e5 := n119 h.h119 (a := rnum a b * rden c d) (b := rnum c d * rden a b) (by omega) (by omega)
    have e6 := make h (a := rnum a b * rden c d + rnum c d * rden a b) (b := rden a b * rden c d) (by omega) (by omega)
    unfold Ans at f1 f2 e1 e2 e3 e5 e6 ⊢; rw [call_eq h.h74]
    by_cases w1 : rden a b = 1
    · have w2 : ¬ rden c d = 1 := fun w2 => w ⟨w1, w2⟩
      have f1' : callPure P L (D P L) 98 [.agg [I64 (rnum a b), .nils, I64 (rden a b), .nils]] = some (.bool true) := by rw [f1, decide_eq_true w1]
      have f2' : callPure P L (D P L) 98 [.agg [I64 (rnum c d), .nils, I64 (rden c d), .nils]] = some (.bool false) := by rw [f2, decide_eq_false w2]
      simp only [go_sem, Nat.reduceEqDiff, Nat.reduceAdd, c74, boxV_n, stC_Fq, ld1_2, ld1_4, frz_agg0, f1', f2', off_ptr, Nat.zero_add, drop2, e1, e2, e3, e5, e6, shut_agg]
      rfl
    · have f1' : callPure P L (D P L) 98 [.agg [I64 (rnum a b), .nils, I64 (rden a b), .nils]] = some (.bool false) := by rw [f1, decide_eq_false w1]
      simp only [go_sem, Nat.reduceEqDiff, Nat.reduceAdd, c74, boxV_n, stC_Fq, ld1_2, ld1_4, frz_agg0, f1', off_ptr, Nat.zero_add, drop2, e1, e2, e3, e5, e6, shut_agg]
      rfl
theorem n50 (h : Na P L) {a b c d : Int} (hb : 0 < b) (hd : 0 < d) (h1 : a.natAbs * d.natAbs < 1152921504606846976) (h2 : c.natAbs * b.natAbs < 1152921504606846976) (h3 : b.natAbs * d.natAbs < 1152921504606846976)
    (q1 : a.natAbs < 1152921504606846976) (q2 : c.natAbs < 1152921504606846976) (q3 : b.natAbs < 1152921504606846976) (q4 : d.natAbs < 1152921504606846976) :
    Ans P L 50 [frac a b, frac c d] (frac (a * d - c * b) (b * d)) := by
  have e1 := n102 h (a := c) (b := d) (by omega)
  rw [frac_neg] at e1
  have e2 := n74 h (a := a) (b := b) (c := -c) (d := d) hb hd h1 (by rw [Int.natAbs_neg]; exact h2) h3 q1 (by rw [Int.natAbs_neg]; exact q2) q3 q4
  rw [Int.neg_mul] at e2
  rw [Int.sub_eq_add_neg]
  unfold Ans at e1 e2 ⊢; rw [call_eq h.h50]
  simp only [go_sem, Nat.reduceEqDiff, Nat.reduceAdd, c50, boxV_n, stC_Fq, ld1_4, frz_agg0, e1, e2, shut_agg]
  rfl
end
end VE
