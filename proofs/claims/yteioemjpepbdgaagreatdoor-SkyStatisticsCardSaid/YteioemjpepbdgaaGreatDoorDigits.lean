import Derived.Test.YteioemjpepbdgaaGreatDoorMono
import Derived.Test.YteioemjpepbdgaaGreatDoorLaws
set_option linter.all false
section
namespace VE
def rnum (a b : Int) : Int := a / (Int.gcd a b : Nat)
def rden (a b : Int) : Int := b / (Int.gcd a b : Nat)
theorem gcd_pos {a b : Int} (hb : 0 < b) : (0 : Int) < (Int.gcd a b : Nat) := by
  have := Int.gcd_pos_of_ne_zero_right a (show b ≠ 0 by omega)
  omega
theorem rnum_scale {a b k : Int} (hk : 0 < k) : rnum (k * a) (k * b) = rnum a b := by
  unfold rnum
  rw [Int.gcd_mul_left, Int.natCast_mul, show (k.natAbs : Int) = k by omega, Int.mul_ediv_mul_of_pos _ _ hk]
theorem rden_scale {a b k : Int} (hk : 0 < k) : rden (k * a) (k * b) = rden a b := by
  unfold rden
  rw [Int.gcd_mul_left, Int.natCast_mul, show (k.natAbs : Int) = k by omega, Int.mul_ediv_mul_of_pos _ _ hk]
theorem num_eq (a b : Int) : a = (Int.gcd a b : Nat) * rnum a b := (Int.mul_ediv_cancel' (Int.gcd_dvd_left a b)).symm
theorem den_eq (a b : Int) : b = (Int.gcd a b : Nat) * rden a b := (Int.mul_ediv_cancel' (Int.gcd_dvd_right a b)).symm
theorem rden_pos {a b : Int} (hb : 0 < b) : 0 < rden a b := by
  have h1 := gcd_pos (a := a) hb
  have h2 := den_eq a b
  rcases Int.lt_trichotomy (rden a b) 0 with h | h | h
  · have := Int.mul_neg_of_pos_of_neg h1 h; omega
  · rw [h, Int.mul_zero] at h2; omega
  · exact h
theorem rnum_abs (a b : Int) : (rnum a b).natAbs ≤ a.natAbs := by
  unfold rnum
  rw [Int.natAbs_ediv_of_dvd (Int.gcd_dvd_left a b)]
  exact Nat.div_le_self _ _
theorem rden_abs (a b : Int) : (rden a b).natAbs ≤ b.natAbs := by
  unfold rden
  rw [Int.natAbs_ediv_of_dvd (Int.gcd_dvd_right a b)]
  exact Nat.div_le_self _ _
theorem r_eq {a b c d : Int} (hb : 0 < b) (hd : 0 < d) (h : a * d = c * b) : rnum a b = rnum c d ∧ rden a b = rden c d := by
  have e1 : rnum (d * a) (d * b) = rnum (b * c) (b * d) := by rw [Int.mul_comm d a, h, Int.mul_comm c b, Int.mul_comm d b]
  have e2 : rden (d * a) (d * b) = rden (b * c) (b * d) := by rw [Int.mul_comm d a, h, Int.mul_comm c b, Int.mul_comm d b]
  rw [rnum_scale hd, rnum_scale hb] at e1
  rw [rden_scale hd, rden_scale hb] at e2
  exact ⟨e1, e2⟩
def ratT (a b : Int) : List Nat := if rden a b = 1 then intS (rnum a b) else intS (rnum a b) ++ [47] ++ intS (rden a b)
theorem ratT_eq {a b c d : Int} (hb : 0 < b) (hd : 0 < d) (h : a * d = c * b) : ratT a b = ratT c d := by
  obtain ⟨h1, h2⟩ := r_eq hb hd h
  unfold ratT
  rw [h1, h2]
end VE
end
section
namespace VE
theorem blt_f {a b : Nat} (h : ¬ a < b) : Nat.blt a b = false := by
  cases hb : Nat.blt a b with
  | false => rfl
  | true => exact absurd (Nat.le_of_ble_eq_true hb) (by omega)
theorem dig_acc : ∀ (f n : Nat) (acc : List Nat), n < f → digitsN f n acc = digitsN f n [] ++ acc
  | 0, _, _, h => by omega
  | f + 1, n, acc, h => by
    simp only [digitsN]
    by_cases h1 : n < 10
    · rw [show Nat.blt n 10 = true from Nat.ble_eq_true_of_le h1]; rfl
    · rw [show Nat.blt n 10 = false from blt_f (by omega)]
      simp only [cond_false]
      rw [dig_acc f (n / 10) _ (by omega), dig_acc f (n / 10) [48 + n % 10] (by omega)]
      simp
theorem dig_small {f n : Nat} (h : n < 10) : digitsN (f + 1) n [] = [48 + n] := by
  simp only [digitsN]
  rw [show Nat.blt n 10 = true from Nat.ble_eq_true_of_le h]; rfl
theorem dig_big {f n : Nat} (h : ¬ n < 10) (hf : n ≤ f) : digitsN (f + 1) n [] = digitsN f (n / 10) [] ++ [48 + n % 10] := by
  rw [← dig_acc f (n / 10) _ (by omega)]
  simp only [digitsN]
  rw [show Nat.blt n 10 = false from blt_f (by omega)]
  rfl
theorem dig_fuel : ∀ (n f : Nat), n < f → digitsN f n [] = natS n := by
  intro n
  induction n using Nat.strongRecOn with
  | _ n ih =>
    intro f hf
    obtain ⟨g, rfl⟩ : ∃ g, f = g + 1 := ⟨f - 1, by omega⟩
    by_cases h : n < 10
    · rw [dig_small h]; unfold natS; rw [dig_small h]
    · rw [dig_big h (by omega), ih (n / 10) (by omega) g (by omega)]
      unfold natS
      rw [dig_big h (Nat.le_refl n), ih (n / 10) (by omega) n (by omega)]
      rfl
theorem natS_small {n : Nat} (h : n < 10) : natS n = [48 + n] := dig_small h
theorem natS_big {n : Nat} (h : ¬ n < 10) : natS n = natS (n / 10) ++ [48 + n % 10] := by
  rw [show natS n = digitsN (n + 1) n [] from rfl, dig_big h (Nat.le_refl n), dig_fuel (n / 10) n (by omega)]
theorem natS_len : ∀ {k n : Nat}, n < 10 ^ (k + 1) → (natS n).length ≤ k + 1
  | 0, n, h => by rw [natS_small (by simpa using h)]; simp
  | k + 1, n, h => by
    by_cases h1 : n < 10
    · rw [natS_small h1]; simp
    · rw [natS_big h1, List.length_append]
      have : n / 10 < 10 ^ (k + 1) := by
        rw [Nat.pow_succ] at h
        omega
      have := natS_len this
      simp only [List.length_cons, List.length_nil]
      omega
theorem natS_len20 {n : Nat} (h : n < 18446744073709551616) : (natS n).length ≤ 20 := natS_len (k := 19) (by omega)
theorem intS_nat (n : Nat) : intS (n : Int) = natS n := rfl
theorem intS_neg {n : Int} (h : n < 0) : intS n = 45 :: natS n.natAbs := by
  cases n with
  | ofNat n => exact absurd h (by simp)
  | negSucc n => rfl
def slashN : List Nat → Nat
  | [] => 0
  | b :: r => if b = 47 then 0 else slashN r + 1
theorem slashN_drop {s : List Nat} {i : Nat} (h : i < s.length) : slashN (s.drop i) = if s[i] = 47 then 0 else slashN (s.drop (i + 1)) + 1 := by
  rw [List.drop_eq_getElem_cons h]; rfl
def digB : List Nat → Bool
  | [] => true
  | b :: r => Nat.ble 48 b && Nat.ble b 57 && digB r
theorem digB_append : ∀ (a b : List Nat), digB (a ++ b) = (digB a && digB b)
  | [], b => by simp [digB]
  | x :: a, b => by simp [digB, digB_append a b, Bool.and_assoc]
theorem digB_natS (n : Nat) : digB (natS n) = true := by
  induction n using Nat.strongRecOn with
  | _ n ih =>
    by_cases h : n < 10
    · rw [natS_small h]; simp [digB]; omega
    · rw [natS_big h, digB_append, ih (n / 10) (by omega)]; simp [digB]; omega
theorem slashN_digB : ∀ {s : List Nat} (r : List Nat), digB s = true → slashN (s ++ r) = s.length + slashN r
  | [], r, _ => by simp
  | b :: s, r, h => by
    simp only [digB, Bool.and_eq_true] at h
    have h1 := Nat.le_of_ble_eq_true h.1.1
    simp only [List.cons_append, slashN, List.length_cons]
    rw [if_neg (by omega), slashN_digB r h.2]
    omega
theorem valN_append : ∀ (l : List Nat) (a d : Nat), d < 10 → valN (l ++ [48 + d]) a = (valN l a).map (fun v => 10 * v + d)
  | [], a, d, h => by
    simp only [List.nil_append, valN]
    rw [show Nat.ble 48 (48 + d) = true from Nat.ble_eq_true_of_le (by omega), show Nat.ble (48 + d) 57 = true from Nat.ble_eq_true_of_le (by omega)]
    simp
  | b :: l, a, d, h => by
    simp only [List.cons_append, valN]
    cases (Nat.ble 48 b && Nat.ble b 57) with
    | true => exact valN_append l _ d h
    | false => rfl
theorem valN_natS (n : Nat) : valN (natS n) 0 = some n := by
  induction n using Nat.strongRecOn with
  | _ n ih =>
    by_cases h : n < 10
    · rw [natS_small h]
      have := valN_append [] 0 n h
      simpa [valN] using this
    · rw [natS_big h, valN_append _ _ _ (by omega), ih (n / 10) (by omega)]
      simp; omega
theorem valN_step {s : List Nat} {i a v : Nat} (h : i < s.length) (hv : valN (s.drop i) a = some v) : 48 ≤ s[i] ∧ s[i] ≤ 57 ∧ valN (s.drop (i + 1)) (10 * a + (s[i] - 48)) = some v := by
  rw [List.drop_eq_getElem_cons h] at hv
  simp only [valN] at hv
  cases hb : (Nat.ble 48 s[i] && Nat.ble s[i] 57) with
  | false => rw [hb] at hv; cases hv
  | true =>
    rw [hb] at hv
    simp only [Bool.and_eq_true] at hb
    exact ⟨Nat.le_of_ble_eq_true hb.1, Nat.le_of_ble_eq_true hb.2, hv⟩
def padN : Nat → Nat → List Nat
  | 0, _ => []
  | k + 1, n => padN k (n / 10) ++ [48 + n % 10]
theorem padN_len : ∀ k n, (padN k n).length = k
  | 0, _ => rfl
  | k + 1, n => by simp [padN, padN_len k]
theorem natS_pad : ∀ (k m r : Nat), 0 < m → r < 10 ^ k → natS (m * 10 ^ k + r) = natS m ++ padN k r
  | 0, m, r, _, h => by simp at h; subst h; simp [padN]
  | k + 1, m, r, hm, h => by
    have h1 : m * 10 ^ (k + 1) + r = (m * 10 ^ k) * 10 + r := by rw [Nat.pow_succ, Nat.mul_assoc]
    have hp : 0 < m * 10 ^ k := Nat.mul_pos hm (Nat.pow_pos (by decide))
    have e1 : (m * 10 ^ (k + 1) + r) / 10 = m * 10 ^ k + r / 10 := by omega
    have e2 : (m * 10 ^ (k + 1) + r) % 10 = r % 10 := by omega
    rw [natS_big (by omega), e1, e2, natS_pad k m (r / 10) hm (by rw [Nat.pow_succ] at h; omega)]
    simp [padN]
theorem valN_pad : ∀ (k r a : Nat), r < 10 ^ k → valN (padN k r) a = some (a * 10 ^ k + r)
  | 0, r, a, h => by simp at h; subst h; simp [padN, valN]
  | k + 1, r, a, h => by
    rw [Nat.pow_succ] at h
    rw [padN, valN_append _ _ _ (Nat.mod_lt _ (by decide)), valN_pad k (r / 10) a (by omega)]
    simp only [Option.map_some, Option.some.injEq, Nat.pow_succ]
    rw [Nat.mul_add, ← Nat.mul_assoc, Nat.mul_comm 10 a, Nat.mul_assoc, Nat.mul_comm 10 (10 ^ k)]
    omega
theorem natS_cut {m : Nat} (h : 1000000000 ≤ m) : natS m = natS (m / 1000000000) ++ padN 9 (m % 1000000000) := by
  have := natS_pad 9 (m / 1000000000) (m % 1000000000) (by omega) (by omega)
  rw [← this]
  congr 1
  omega
end VE
end
section
namespace VE
def dv : List Int → Nat
  | [] => 0
  | a :: r => a.toNat + 1000000000 * dv r
theorem dv_append : ∀ (a b : List Int), dv (a ++ b) = dv a + 1000000000 ^ a.length * dv b
  | [], b => by simp [dv]
  | x :: a, b => by
    simp only [List.cons_append, dv, dv_append a b, List.length_cons, Nat.pow_succ, Nat.mul_add]
    rw [Nat.mul_comm (1000000000 ^ a.length) 1000000000, ← Nat.mul_assoc]
    omega
theorem dv_take {l : List Int} (i : Nat) : dv (l.take (i + 1)) = dv (l.take i) + 1000000000 ^ i * (l.getD i 0).toNat := by
  by_cases h : i < l.length
  · rw [List.take_succ_eq_append_getElem h, dv_append, List.length_take, Nat.min_eq_left (by omega)]
    simp [dv, List.getD_eq_getElem?_getD, List.getElem?_eq_getElem h]
  · rw [List.take_of_length_le (by omega), List.take_of_length_le (by omega)]
    simp [List.getD_eq_getElem?_getD, List.getElem?_eq_none (Nat.le_of_not_lt h)]
abbrev dg (l : List Int) : Prop := outI 0 999999999 l = false
theorem dg_append {a b : List Int} : dg (a ++ b) ↔ dg a ∧ dg b := by
  induction a with
  | nil => simp [dg, outI]
  | cons x a ih =>
    simp only [dg, List.cons_append, outI] at ih ⊢
    split
    · simp
    · exact ih
theorem dg_one {x : Int} : dg [x] ↔ 0 ≤ x ∧ x < 1000000000 := by
  simp only [dg, outI]
  split
  · simp; omega
  · simp; omega
theorem dg_get {l : List Int} (h : dg l) (i : Nat) : 0 ≤ l.getD i 0 ∧ l.getD i 0 < 1000000000 := by
  by_cases hi : i < l.length
  · have := outI_get h i hi
    rw [show l.getD i 0 = l[i] by simp [List.getD_eq_getElem?_getD, List.getElem?_eq_getElem hi]]
    omega
  · simp [List.getD_eq_getElem?_getD, List.getElem?_eq_none (Nat.le_of_not_lt hi)]
theorem dg_take {l : List Int} (h : dg l) (i : Nat) : dg (l.take i) := outI_take h i
theorem dv_lt : ∀ {l : List Int}, dg l → dv l < 1000000000 ^ l.length
  | [], _ => by simp [dv]
  | x :: l, h => by
    have h' : dg ([x] ++ l) := h
    obtain ⟨h1, h2⟩ := dg_append.1 h'
    have h1 := dg_one.1 h1
    have := dv_lt h2
    simp only [dv, List.length_cons, Nat.pow_succ]
    omega
def trimL : List Int → List Int
  | [] => []
  | a :: r => match trimL r with | [] => if a = 0 then [] else [a] | t :: q => a :: t :: q
theorem trimL_zero : ∀ l : List Int, trimL (l ++ [0]) = trimL l
  | [] => rfl
  | a :: l => by simp only [List.cons_append, trimL, trimL_zero l]
theorem trimL_last {a : Int} (h : a ≠ 0) : ∀ l : List Int, trimL (l ++ [a]) = l ++ [a]
  | [] => by simp [trimL, h]
  | b :: l => by
    simp only [List.cons_append, trimL, trimL_last h l]
    cases hq : l ++ [a] with
    | nil => simp at hq
    | cons t q => rfl
theorem trimL_dv : ∀ l : List Int, dv (trimL l) = dv l
  | [] => rfl
  | a :: l => by
    have ih := trimL_dv l
    simp only [trimL, dv]
    split
    · rename_i h
      rw [h] at ih
      simp only [dv] at ih
      split
      · rename_i h0; subst h0; simp [dv, ← ih]
      · simp [dv, ← ih]
    · rename_i t q h
      rw [h] at ih
      simp only [dv] at ih ⊢
      omega
theorem trimL_dg : ∀ {l : List Int}, dg l → dg (trimL l)
  | [], _ => rfl
  | a :: l, h => by
    have h' : dg ([a] ++ l) := h
    obtain ⟨h1, h2⟩ := dg_append.1 h'
    have ih := trimL_dg h2
    simp only [trimL]
    split
    · split
      · rfl
      · exact h1
    · rename_i t q hq
      rw [hq] at ih
      exact (dg_append (a := [a]) (b := t :: q)).2 ⟨h1, ih⟩
theorem trimL_len : ∀ l : List Int, (trimL l).length ≤ l.length
  | [] => Nat.le_refl _
  | a :: l => by
    have ih := trimL_len l
    simp only [trimL]
    split
    · split <;> simp
    · rename_i t q h
      rw [h] at ih
      simp at ih ⊢; omega
theorem snoc {α : Type} (l : List α) : l = [] ∨ ∃ m a, l = m ++ [a] := by
  rcases List.eq_nil_or_concat l with h | ⟨m, a, h⟩
  · exact .inl h
  · exact .inr ⟨m, a, by rw [h, List.concat_eq_append]⟩
theorem trimL_idem' : ∀ (n : Nat) (l : List Int), l.length = n → trimL (trimL l) = trimL l := by
  intro n
  induction n with
  | zero => intro l h; rw [List.eq_nil_of_length_eq_zero h]; rfl
  | succ n ih =>
    intro l h
    rcases snoc l with rfl | ⟨m, a, rfl⟩
    · rfl
    · by_cases h0 : a = 0
      · subst h0
        rw [trimL_zero]
        exact ih m (by simpa using h)
      · rw [trimL_last h0, trimL_last h0]
theorem trimL_idem (l : List Int) : trimL (trimL l) = trimL l := trimL_idem' _ l rfl
abbrev nz (l : List Int) : Prop := trimL l = l
theorem nz_trim (l : List Int) : nz (trimL l) := trimL_idem l
theorem nz_ge {l : List Int} (h : nz l) (hd : dg l) (h0 : l ≠ []) : 1000000000 ^ (l.length - 1) ≤ dv l := by
  rcases snoc l with rfl | ⟨m, a, rfl⟩
  · exact absurd rfl h0
  · by_cases ha : a = 0
    · subst ha
      have := trimL_len m
      have e := congrArg List.length h
      rw [trimL_zero] at e
      simp at e
      omega
    · rw [dv_append]
      have := dg_one.1 (dg_append.1 hd).2
      simp only [dv, List.length_append, List.length_singleton, Nat.add_sub_cancel, Nat.mul_zero, Nat.add_zero]
      have h1 : 1 ≤ a.toNat := by omega
      have := Nat.mul_le_mul_left (1000000000 ^ m.length) h1
      omega
theorem nz_zero {l : List Int} (h : nz l) (hd : dg l) (h0 : dv l = 0) : l = [] := by
  by_cases hl : l = []
  · exact hl
  · have := nz_ge h hd hl
    have := Nat.pow_le_pow_right (show 0 < 1000000000 by decide) (Nat.zero_le (l.length - 1))
    omega
theorem nz_len {a b : List Int} (ha : dg a) (hb : nz b) (hb' : dg b) (h : a.length < b.length) : dv a < dv b := by
  have h1 := dv_lt ha
  have h2 := nz_ge hb hb' (fun e => by subst e; simp at h)
  have h3 : 1000000000 ^ a.length ≤ 1000000000 ^ (b.length - 1) := Nat.pow_le_pow_right (by decide) (by omega)
  omega
def cmpN (m n : Nat) : Int := if m < n then -1 else if n < m then 1 else 0
theorem dv_cut {l : List Int} {i : Nat} (h : i < l.length) : dv l = dv (l.take i) + 1000000000 ^ i * (l[i].toNat + 1000000000 * dv (l.drop (i + 1))) := by
  have e : l = l.take i ++ l[i] :: l.drop (i + 1) := by rw [← List.drop_eq_getElem_cons h, List.take_append_drop]
  have : dv l = dv (l.take i ++ l[i] :: l.drop (i + 1)) := congrArg dv e
  rw [this, dv_append, List.length_take, Nat.min_eq_left (by omega)]
  rfl
theorem dv_less {a b : List Int} {i : Nat} (ha : dg a) (hb : dg b) (h1 : i < a.length) (h2 : i < b.length) (he : a.drop (i + 1) = b.drop (i + 1)) (h : a[i] < b[i]) : dv a < dv b := by
  rw [dv_cut h1, dv_cut h2, he]
  have hl := dv_lt (dg_take ha i)
  rw [List.length_take, Nat.min_eq_left (by omega)] at hl
  have g1 := outI_get ha i h1
  have g2 := outI_get hb i h2
  have h3 : a[i].toNat + 1000000000 * dv (b.drop (i + 1)) + 1 ≤ b[i].toNat + 1000000000 * dv (b.drop (i + 1)) := by omega
  have := Nat.mul_le_mul_left (1000000000 ^ i) h3
  rw [Nat.mul_add, Nat.mul_one] at this
  omega
theorem dv_set : ∀ {l : List Int} {j : Nat} {x : Int}, j < l.length → dv (l.set j x) + 1000000000 ^ j * (l.getD j 0).toNat = dv l + 1000000000 ^ j * x.toNat
  | [], j, x, h => by simp at h
  | a :: l, 0, x, _ => by simp [dv]; omega
  | a :: l, j + 1, x, h => by
    have ih := dv_set (l := l) (j := j) (x := x) (by simpa using h)
    simp only [List.set_cons_succ, dv, List.getD_cons_succ, Nat.pow_succ]
    rw [Nat.mul_right_comm, Nat.mul_right_comm _ 1000000000]
    have := congrArg (fun q => 1000000000 * q) ih
    simp only [Nat.mul_add] at this
    rw [Nat.mul_comm (1000000000 ^ j * _) 1000000000, Nat.mul_comm (1000000000 ^ j * _) 1000000000]
    omega
theorem dg_set {l : List Int} (h : dg l) {j : Nat} {x : Int} (hx : 0 ≤ x ∧ x < 1000000000) : dg (l.set j x) := by
  by_cases hj : j < l.length
  · rw [List.set_eq_take_append_cons_drop, if_pos hj]
    have e : l = l.take (j + 1) ++ l.drop (j + 1) := (List.take_append_drop _ _).symm
    have hd : dg (l.drop (j + 1)) := by rw [e] at h; exact (dg_append.1 h).2
    exact dg_append.2 ⟨dg_take h j, (dg_append (a := [x]) (b := l.drop (j + 1))).2 ⟨dg_one.2 hx, hd⟩⟩
  · rw [List.set_eq_of_length_le (by omega)]; exact h
theorem getD_set {l : List Int} {j m : Nat} {x : Int} (h : m ≠ j) : (l.set j x).getD m 0 = l.getD m 0 := by
  simp [List.getD_eq_getElem?_getD, Ne.symm h]
theorem mul_step {V0 V V' p q A X Y o c s : Nat} (hs : s = o + A * X + c) (hset : V' + p * q * o = V + p * q * (s % 1000000000)) (hv : V + p * q * c = V0 + p * (A * Y)) :
    V' + p * (q * 1000000000) * (s / 1000000000) = V0 + p * (A * (Y + q * X)) := by
  have e := Nat.mod_add_div s 1000000000
  have e2 : p * q * s = p * q * (s % 1000000000) + p * (q * 1000000000) * (s / 1000000000) := by
    conv => lhs; rw [← e]
    rw [Nat.mul_add, ← Nat.mul_assoc (p * q), ← Nat.mul_assoc p q]
  have e3 : p * q * s = p * q * o + p * q * (A * X) + p * q * c := by rw [hs, Nat.mul_add, Nat.mul_add]
  have e4 : p * (A * (Y + q * X)) = p * (A * Y) + p * q * (A * X) := by
    rw [Nat.mul_add, Nat.mul_add, Nat.mul_assoc p q, ← Nat.mul_assoc A q X, Nat.mul_comm A q, Nat.mul_assoc q A X]
  omega
theorem dv_zeros (n : Nat) : dv (List.replicate n 0) = 0 := by
  induction n with
  | zero => rfl
  | succ n ih => simp [List.replicate_succ, dv, ih]
theorem dg_zeros (n : Nat) : dg (List.replicate n 0) := by
  induction n with
  | zero => rfl
  | succ n ih => exact (dg_append (a := [0]) (b := List.replicate n 0)).2 ⟨by decide, ih⟩
end VE
end
