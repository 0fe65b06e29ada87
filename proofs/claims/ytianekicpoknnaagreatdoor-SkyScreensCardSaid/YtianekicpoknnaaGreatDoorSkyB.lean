import Derived.Test.YtianekicpoknnaaGreatDoorSkyA
import Derived.Test.YtianekicpoknnaaGreatDoorLaws
set_option linter.all false
section
/- Chapter 7, integers: cells; the reference's drawing and smoothing. -/
set_option maxRecDepth 100000
namespace VE
open Go (IntKind)
section
variable {P : Prog} {L : Lib}

theorem asNat_int {k : IntKind} {n : Int} (h : 0 ≤ n) : asNat (.int k n) = some n.toNat := by
  cases n with
  | ofNat n => rfl
  | negSucc n => exact absurd h (by simp)

/-- A cell of a square. -/
theorem cell_get {s : List (List Int)} {n : Nat} (hn : s.length = n) (h0 : 0 < n) (hr : ∀ i (hi : i < s.length), s[i].length = n) (c r : Int) :
    ∃ (h1 : (r % n).toNat < s.length) (h2 : (c % n).toNat < (s[(r % n).toNat]'h1).length), cellI s c r = (s[(r % n).toNat]'h1)[(c % n).toNat]'h2 := by
  have a1 := Int.emod_nonneg r (show (n : Int) ≠ 0 by omega)
  have a2 := Int.emod_lt_of_pos r (show (0 : Int) < n by omega)
  have b1 := Int.emod_nonneg c (show (n : Int) ≠ 0 by omega)
  have b2 := Int.emod_lt_of_pos c (show (0 : Int) < n by omega)
  have h1 : (r % n).toNat < s.length := by omega
  have h2 : (c % n).toNat < (s[(r % n).toNat]'h1).length := by rw [hr]; omega
  refine ⟨h1, h2, ?_⟩
  unfold cellI
  rw [hn]
  simp only [List.getD_eq_getElem?_getD, List.getElem?_eq_getElem h1, List.getElem?_eq_getElem h2, Option.getD_some]

theorem s97 (h : Has P L 97 c97) (h134 : Has P L 134 c134) {v : AV} {s : List (List Int)} (hv : IsS v s) {n : Nat} (hn : s.length = n) (h0 : 0 < n) (hl : n ≤ 1000000) (hr : ∀ i (hi : i < s.length), s[i].length = n) (c r : Int) :
    Ans P L 97 [v, I64 c, I64 r] (I64 (cellI s c r)) := by
  obtain ⟨h1, h2, h3⟩ := cell_get hn h0 hr c r
  have a1 := Int.emod_nonneg r (show (n : Int) ≠ 0 by omega)
  have b1 := Int.emod_nonneg c (show (n : Int) ≠ 0 by omega)
  obtain ⟨q, rest, hq1, hq2⟩ := hv.ixa h1
  have e1 := s134 h134 (n := r) (m := (s.length : Int)) (by omega) (by omega)
  have e2 := s134 h134 (n := c) (m := (s.length : Int)) (by omega) (by omega)
  rw [hn] at e1 e2
  unfold Ans at e1 e2 ⊢; rw [call_eq h]
  simp only [go_sem, Nat.reduceEqDiff, Nat.reduceAdd, Nat.reduceMul, Nat.reduceLT, Nat.reduceLeDiff, Nat.mul_one, c97, hv.len, hv.pu, hv.frz, hv.shut, hv.shut1, hv.res, hv.one, hv.cells, hn, e1, e2, asNat_int a1, asNat_int b1, hq2, hq1.ixa h2, h3]

theorem s43 (h : Has P L 43 c43) {v : AV} {s : List (List Int)} (hv : IsS v s) {n : Nat} (hn : s.length = n) (h0 : 0 < n) (hl : n ≤ 1000000) (hr : ∀ i (hi : i < s.length), s[i].length = n) (c r : Int) :
    Ans P L 43 [v, I64 c, I64 r] (I64 (cellI s c r)) := by
  obtain ⟨h1, h2, h3⟩ := cell_get hn h0 hr c r
  have a1 := Int.emod_nonneg r (show (n : Int) ≠ 0 by omega)
  have b1 := Int.emod_nonneg c (show (n : Int) ≠ 0 by omega)
  obtain ⟨q, rest, hq1, hq2⟩ := hv.ixa h1
  have hd : (n : Int) ≠ 0 := by omega
  have w : ∀ x : Int, IntKind.wrap .i64 (x.tmod n + n) = x.tmod n + n := fun x => by
    have h2 : x.tmod n < n := Int.tmod_lt_of_pos x (by omega)
    have h3 : -(n : Int) < x.tmod n := Int.lt_tmod_of_pos x (by omega)
    exact wrap64 (by omega) (by omega)
  unfold Ans; rw [call_eq h]
  simp only [go_sem, Nat.reduceEqDiff, Nat.reduceAdd, Nat.reduceMul, Nat.reduceLT, Nat.reduceLeDiff, Nat.mul_one, c43, hv.len, hv.pu, hv.frz, hv.shut, hv.shut1, hv.res, hv.one, hv.cells, hn, bin_rem _ _ _ hd, w, tmod_up (show (0 : Int) < n by omega), asNat_int a1, asNat_int b1, hq2, hq1.ixa h2, h3]

/-- A row, frozen. -/
def vrow (l : List Int) : AV := .vsl false l.length (l.map I64)
theorem vrow_I (l : List Int) : IsI (vrow l) l := isI_vsl false l
theorem rows_I (s : List (List Int)) : All2 IsI (s.map vrow) s := by
  induction s with
  | nil => trivial
  | cons a r ih => exact ⟨vrow_I a, ih⟩
theorem rows_S (e : Bool) (s : List (List Int)) : IsS (.vsl e s.length (s.map vrow)) s := by
  refine ⟨s.map vrow, ?_, rows_I s⟩
  have := isL_vsl e (s.map vrow)
  rwa [List.length_map] at this

/-- Two growing slices: their values, the memory, its count. -/
def g2a : List AV → AV
  | [] => .nils
  | a :: r => .osl 0 0 (r.length + 1)
def g2b : List AV → List AV → AV
  | _, [] => .nils
  | [], b :: q => .osl 0 0 (q.length + 1)
  | _ :: _, b :: q => .osl 1 0 (q.length + 1)
def g2h : List AV → List AV → Hp
  | [], [] => []
  | a :: r, [] => [(0, .cells true true false 1 (a :: r))]
  | [], b :: q => [(0, .cells true true false 1 (b :: q))]
  | a :: r, b :: q => [(1, .cells true true false 1 (b :: q)), (0, .cells true true false 1 (a :: r))]
def g2c : List AV → List AV → Nat
  | [], [] => 0
  | _ :: _, [] => 1
  | [], _ :: _ => 1
  | _ :: _, _ :: _ => 2
theorem g2a_n : g2a [] = .nils := rfl
theorem g2a_c (a : AV) (r : List AV) : g2a (a :: r) = .osl 0 0 (r.length + 1) := rfl
theorem g2b_n (o : List AV) : g2b o [] = .nils := by cases o <;> rfl
theorem g2b_nc (b : AV) (q : List AV) : g2b [] (b :: q) = .osl 0 0 (q.length + 1) := rfl
theorem g2b_cc (a : AV) (r : List AV) (b : AV) (q : List AV) : g2b (a :: r) (b :: q) = .osl 1 0 (q.length + 1) := rfl
theorem g2h_nn : g2h [] [] = [] := rfl
theorem g2h_cn (a : AV) (r : List AV) : g2h (a :: r) [] = [(0, .cells true true false 1 (a :: r))] := rfl
theorem g2h_nc (b : AV) (q : List AV) : g2h [] (b :: q) = [(0, .cells true true false 1 (b :: q))] := rfl
theorem g2h_cc (a : AV) (r : List AV) (b : AV) (q : List AV) : g2h (a :: r) (b :: q) = [(1, .cells true true false 1 (b :: q)), (0, .cells true true false 1 (a :: r))] := rfl
theorem g2c_nn : g2c [] [] = 0 := rfl
theorem g2c_cn (a : AV) (r : List AV) : g2c (a :: r) [] = 1 := rfl
theorem g2c_nc (b : AV) (q : List AV) : g2c [] (b :: q) = 1 := rfl
theorem g2c_cc (a : AV) (r : List AV) (b : AV) (q : List AV) : g2c (a :: r) (b :: q) = 2 := rfl
end
end VE
end
section
/- Chapter 7, integers: the reference's drawing. -/
set_option maxRecDepth 100000
namespace VE
open Go (IntKind)
section
variable {P : Prog} {L : Lib}

def I64s (l : List Int) : List AV := l.map I64

theorem s8_while {v : AV} {w : List Int} (hv : IsI v w) (hw : w.length ≤ 33) (ho : outI 0 1000 w = false) {a1 a7 a9 a11 a13 : Int} {o q : List AV} {t : Int} (h0 : 0 ≤ t) (ht : t < sumI w) :
    ∀ k s, (∃ i : Nat, compact [1, 2, 7, 9, 10, 11, 12, 13, 14, 15, 16] s = ⟨[(1, I64 a1), (2, v), (7, I64 a7), (9, I64 a9), (10, g2a o), (11, I64 a11), (12, g2b o q), (13, I64 a13), (14, I64 t), (15, I64 i), (16, I64 (sumI (w.take (i + 1))))], g2h o q, g2c o q, 0⟩ ∧
        i + k = w.length ∧ i < w.length ∧ ∀ j, j < i → sumI (w.take (j + 1)) ≤ t) →
      ∃ ex s', D P L (.loop [1, 2, 7, 9, 10, 11, 12, 13, 14, 15, 16] c8_1) s = some (ex, s') ∧ ∃ tm, s' = ⟨tm, g2h o q, g2c o q, 0⟩ ∧ ex = .exit 6 ∧ tget tm 1 = I64 a1 ∧ tget tm 2 = v ∧ tget tm 7 = I64 a7 ∧ tget tm 9 = I64 a9 ∧
        tget tm 10 = g2a o ∧ tget tm 11 = I64 a11 ∧ tget tm 12 = g2b o q ∧ tget tm 13 = I64 a13 ∧ tget tm 15 = I64 (pickK w t) := by
  refine loop_can (I := fun k s => ∃ i : Nat, s = ⟨[(1, I64 a1), (2, v), (7, I64 a7), (9, I64 a9), (10, g2a o), (11, I64 a11), (12, g2b o q), (13, I64 a13), (14, I64 t), (15, I64 i), (16, I64 (sumI (w.take (i + 1))))], g2h o q, g2c o q, 0⟩ ∧
        i + k = w.length ∧ i < w.length ∧ ∀ j, j < i → sumI (w.take (j + 1)) ≤ t) (Q := fun ex s' => ∃ tm, s' = ⟨tm, g2h o q, g2c o q, 0⟩ ∧ ex = .exit 6 ∧ tget tm 1 = I64 a1 ∧ tget tm 2 = v ∧ tget tm 7 = I64 a7 ∧ tget tm 9 = I64 a9 ∧
        tget tm 10 = g2a o ∧ tget tm 11 = I64 a11 ∧ tget tm 12 = g2b o q ∧ tget tm 13 = I64 a13 ∧ tget tm 15 = I64 (pickK w t)) ?_
  rintro k s ⟨i, rfl, hk, hi, hj⟩
  by_cases h1 : sumI (w.take (i + 1)) ≤ t
  · left
    have hi1 : i + 1 < w.length := by
      by_cases hc : i + 1 < w.length
      · exact hc
      · rw [List.take_of_length_le (by omega)] at h1; omega
    have hb := sumI_bound (outI_take ho (i + 1))
    have hg := outI_get ho (i + 1) hi1
    have hlen : (w.take (i + 1)).length ≤ 33 := by rw [List.length_take]; omega
    have e1 : ((i : Int) + 1) = ((i + 1 : Nat) : Int) := rfl
    simp only [go_sem, Nat.reduceEqDiff, Nat.reduceAdd, Nat.reduceMul, Nat.reduceLT, Nat.reduceLeDiff, Nat.mul_one, c8_1, hv.len, hv.pu, hv.frz, hv.shut, hv.shut1, hv.res, hv.one, hv.cells, h1, e1, wrapN (n := i + 1) (by omega), hv.ixa hi1, wrap64 (n := sumI (w.take (i + 1)) + w[i + 1]) (by omega) (by omega)]
    refine ⟨_, k - 1, rfl, by omega, i + 1, ?_, by omega, by omega, ?_⟩
    · rw [sumI_take hi1]
      cases o <;> cases q <;> simp only [go_sem, Nat.reduceEqDiff, Nat.reduceAdd, Nat.reduceMul, Nat.reduceLT, Nat.reduceLeDiff, Nat.mul_one, compact0, g2a_n, g2a_c, g2b_n, g2b_nc, g2b_cc, g2h_nn, g2h_cn, g2h_nc, g2h_cc, g2c_nn, g2c_cn, g2c_nc, g2c_cc, refs_pure hv.pu, ren_pure _ hv.pu]
    · intro j hj'
      by_cases e : j = i
      · subst e; exact h1
      · exact hj j (by omega)
  · right
    simp only [go_sem, Nat.reduceEqDiff, Nat.reduceAdd, Nat.reduceMul, Nat.reduceLT, Nat.reduceLeDiff, Nat.mul_one, c8_1, hv.len, hv.pu, hv.frz, hv.shut, hv.shut1, hv.res, hv.one, hv.cells, h1]
    refine ⟨_, _, rfl, by simp, _, rfl, rfl, ?_⟩
    rw [pickK_at hi hj (by omega)]
    simp only [go_sem, Nat.reduceEqDiff, Nat.reduceAdd, Nat.reduceMul, Nat.reduceLT, Nat.reduceLeDiff, Nat.mul_one]
    simp

theorem iterX_succ (x : Int) (k : Nat) : iterX x (k + 1) = nextX (iterX x k) := rfl

/-- A row of the reference's drawing. -/
theorem s8_row {v : AV} {w : List Int} (hv : IsI v w) (hw : w.length ≤ 33) (ho : outI 0 1000 w = false) (hs : 0 < sumI w) {n : Nat} (hn : n ≤ 16) {a11 : Int} {o : List AV} {key : Int} (hk : 0 ≤ key ∧ key ≤ 2147483646) {b : Nat} :
    ∀ k s, (∃ c : Nat, compact [1, 2, 7, 9, 10, 11, 12, 13] s = ⟨[(1, I64 n), (2, v), (7, I64 (sumI w)), (9, I64 (iterX key (b + c))), (10, g2a o), (11, I64 a11), (12, g2b o (I64s ((List.range c).map fun j => drawnV key w (b + j)))), (13, I64 c)], g2h o (I64s ((List.range c).map fun j => drawnV key w (b + j))), g2c o (I64s ((List.range c).map fun j => drawnV key w (b + j))), 0⟩ ∧ c + k = n) →
      ∃ ex s', D P L (.loop [1, 2, 7, 9, 10, 11, 12, 13] c8_2) s = some (ex, s') ∧ ∃ tm, s' = ⟨tm, g2h o (I64s ((List.range n).map fun j => drawnV key w (b + j))), g2c o (I64s ((List.range n).map fun j => drawnV key w (b + j))), 0⟩ ∧ ex = .exit 4 ∧
        tget tm 1 = I64 n ∧ tget tm 2 = v ∧ tget tm 7 = I64 (sumI w) ∧ tget tm 9 = I64 (iterX key (b + n)) ∧ tget tm 10 = g2a o ∧ tget tm 11 = I64 a11 ∧ tget tm 12 = g2b o (I64s ((List.range n).map fun j => drawnV key w (b + j))) := by
  refine loop_can (I := fun k s => ∃ c : Nat, s = ⟨[(1, I64 n), (2, v), (7, I64 (sumI w)), (9, I64 (iterX key (b + c))), (10, g2a o), (11, I64 a11), (12, g2b o (I64s ((List.range c).map fun j => drawnV key w (b + j)))), (13, I64 c)], g2h o (I64s ((List.range c).map fun j => drawnV key w (b + j))), g2c o (I64s ((List.range c).map fun j => drawnV key w (b + j))), 0⟩ ∧ c + k = n)
    (Q := fun ex s' => ∃ tm, s' = ⟨tm, g2h o (I64s ((List.range n).map fun j => drawnV key w (b + j))), g2c o (I64s ((List.range n).map fun j => drawnV key w (b + j))), 0⟩ ∧ ex = .exit 4 ∧
        tget tm 1 = I64 n ∧ tget tm 2 = v ∧ tget tm 7 = I64 (sumI w) ∧ tget tm 9 = I64 (iterX key (b + n)) ∧ tget tm 10 = g2a o ∧ tget tm 11 = I64 a11 ∧ tget tm 12 = g2b o (I64s ((List.range n).map fun j => drawnV key w (b + j)))) ?_
  rintro k s ⟨c, rfl, hck⟩
  by_cases hc : c < n
  · left
    have hx := iterX_bound hk (b + c)
    have hx1 := nextX_bound (iterX key (b + c))
    have hm : (39373 * iterX key (b + c)).tmod 2147483647 = nextX (iterX key (b + c)) := by rw [Int.tmod_eq_emod_of_nonneg (by omega)]; rfl
    have hm2 : (nextX (iterX key (b + c))).tmod (sumI w) = nextX (iterX key (b + c)) % sumI w := by rw [Int.tmod_eq_emod_of_nonneg (by omega)]
    have hd1 : (2147483647 : Int) ≠ 0 := by decide
    have hd2 : sumI w ≠ 0 := by omega
    have hd3 : (2 : Int) ≠ 0 := by decide
    have hl0 : 0 < w.length := by
      cases w with
      | nil => simp [sumI] at hs
      | cons a r => simp
    generalize ht : nextX (iterX key (b + c)) % sumI w = t at hm2
    have ht0 : 0 ≤ t := by rw [← ht]; exact Int.emod_nonneg _ hd2
    have ht1 : t < sumI w := by rw [← ht]; exact Int.emod_lt_of_pos _ hs
    have hw0 : sumI (w.take (0 + 1)) = w[0] := by rw [sumI_take hl0]; simp [sumI]
    have hp := pickK_lt ht1 ht0
    have hdv : drawnV key w (b + c) = (pickK w t : Int) - (w.length / 2 : Nat) := by unfold drawnV; rw [iterX_succ, ht]
    have hq2 : (w.length : Int).tdiv 2 = (w.length / 2 : Nat) := by rw [Int.tdiv_eq_ediv_of_nonneg (by omega)]; rfl
    simp only [go_sem, Nat.reduceEqDiff, Nat.reduceAdd, Nat.reduceMul, Nat.reduceLT, Nat.reduceLeDiff, Nat.mul_one, c8_2, hv.len, hv.pu, hv.frz, hv.shut, hv.shut1, hv.res, hv.one, hv.cells, show (c : Int) < n by omega, wrap64 (n := 39373 * iterX key (b + c)) (by omega) (by omega), bin_rem _ _ _ hd1, hm, bin_rem _ _ _ hd2, hm2, hv.ixa hl0, ← hw0]
    generalize hq : D P L (.loop [1, 2, 7, 9, 10, 11, 12, 13, 14, 15, 16] c8_1) _ = q
    obtain ⟨ex, s, rfl, tm, rfl, rfl, g1, g2, g7, g9, g10, g11, g12, g13, g15⟩ := of_key hq (s8_while hv hw ho (a1 := n) (a7 := sumI w) (a9 := nextX (iterX key (b + c))) (a11 := a11) (a13 := c) (o := o) (q := I64s ((List.range c).map fun j => drawnV key w (b + j))) ht0 ht1 w.length) ⟨0, by
      generalize I64s ((List.range c).map fun j => drawnV key w (b + j)) = q
      cases o <;> cases q <;> simp only [go_sem, Nat.reduceEqDiff, Nat.reduceAdd, Nat.reduceMul, Nat.reduceLT, Nat.reduceLeDiff, Nat.mul_one, compact0, g2a_n, g2a_c, g2b_n, g2b_nc, g2b_cc, g2h_nn, g2h_cn, g2h_nc, g2h_cc, g2c_nn, g2c_cn, g2c_nc, g2c_cc, refs_pure hv.pu, ren_pure _ hv.pu] <;> rfl, by omega, hl0, fun j hj => absurd hj (by omega)⟩
    have hlast : I64s ((List.range (c + 1)).map fun j => drawnV key w (b + j)) = I64s ((List.range c).map fun j => drawnV key w (b + j)) ++ [I64 (drawnV key w (b + c))] := by
      simp only [I64s, List.range_succ, List.map_append, List.map_cons, List.map_nil]
    have hlen : (I64s ((List.range c).map fun j => drawnV key w (b + j))).length = c := by simp [I64s]
    have e1 : b + (c + 1) = b + c + 1 := by omega
    have hwr : IntKind.wrap .i64 (drawnV key w (b + c)) = drawnV key w (b + c) := wrap64 (by omega) (by omega)
    suffices hh : ∃ s', _ = some (Ex.normal, s') ∧ compact [1, 2, 7, 9, 10, 11, 12, 13] s' = ⟨[(1, I64 n), (2, v), (7, I64 (sumI w)), (9, I64 (iterX key (b + (c + 1)))), (10, g2a o), (11, I64 a11), (12, g2b o (I64s ((List.range (c + 1)).map fun j => drawnV key w (b + j)))), (13, I64 ((c + 1 : Nat) : Int))], g2h o (I64s ((List.range (c + 1)).map fun j => drawnV key w (b + j))), g2c o (I64s ((List.range (c + 1)).map fun j => drawnV key w (b + j))), 0⟩ by
      obtain ⟨s', e1, e2⟩ := hh
      exact ⟨s', k - 1, e1, by omega, c + 1, e2, by omega⟩
    rw [hlast]
    generalize hqq : I64s ((List.range c).map fun j => drawnV key w (b + j)) = q at hlen g12
    cases o <;> cases q
    all_goals
      simp only [g2a_n, g2a_c, g2b_n, g2b_nc, g2b_cc, g2h_nn, g2h_cn, g2h_nc, g2h_cc, g2c_nn, g2c_cn, g2c_nc, g2c_cc] at g10 g12
      try simp only [List.length_cons] at hlen
      simp only [go_sem, Nat.reduceEqDiff, Nat.reduceAdd, Nat.reduceMul, Nat.reduceLT, Nat.reduceLeDiff, Nat.mul_one, g2a_n, g2a_c, g2b_n, g2b_nc, g2b_cc, g2h_nn, g2h_cn, g2h_nc, g2h_cc, g2c_nn, g2c_cn, g2c_nc, g2c_cc, compact0, g1, g2, g7, g9, g10, g11, g12, g13, g15, hv.len, hv.pu, hv.frz, hv.shut, hv.shut1, hv.res, hv.one, hv.cells, refs_pure hv.pu, ren_pure _ hv.pu, bin_quo _ _ _ hd3, hq2, wrapN (n := w.length / 2) (by omega), hwr, ← hdv, app_nils]
      first
        | rw [app_own (ex := false) (pu := true) (sz := 1) (by simp only [go_sem, Nat.reduceEqDiff, Nat.reduceAdd, Nat.reduceMul, Nat.reduceLT, Nat.reduceLeDiff, Nat.mul_one]; rfl) (by simp) (by omega) (by omega) (by decide) (by simp only [go_sem, Nat.reduceEqDiff, Nat.reduceAdd, Nat.reduceMul, Nat.reduceLT, Nat.reduceLeDiff, Nat.mul_one])]
          simp only [go_sem, Nat.reduceEqDiff, Nat.reduceAdd, Nat.reduceMul, Nat.reduceLT, Nat.reduceLeDiff, Nat.mul_one]
        | skip
      refine ⟨_, rfl, ?_⟩
      rw [show (c : Int) + 1 = ((c + 1 : Nat) : Int) from rfl, wrapN (n := c + 1) (by omega)]
      simp only [go_sem, Nat.reduceEqDiff, Nat.reduceAdd, Nat.reduceMul, Nat.reduceLT, Nat.reduceLeDiff, Nat.mul_one, compact0, refs_pure hv.pu, ren_pure _ hv.pu, g2a_n, g2a_c, g2b_n, g2b_nc, g2b_cc, g2h_nn, g2h_cn, g2h_nc, g2h_cc, g2c_nn, g2c_cn, g2c_nc, g2c_cc, List.length_append] <;> rfl
  · right
    have hcn : c = n := by omega
    subst hcn
    simp only [go_sem, Nat.reduceEqDiff, Nat.reduceAdd, Nat.reduceMul, Nat.reduceLT, Nat.reduceLeDiff, Nat.mul_one, c8_2, show ¬ (c : Int) < c by omega]
    refine ⟨_, _, rfl, by simp, _, rfl, rfl, ?_⟩
    simp only [go_sem, Nat.reduceEqDiff, Nat.reduceAdd, Nat.reduceMul, Nat.reduceLT, Nat.reduceLeDiff, Nat.mul_one]
    simp

/-- The first rows of what is drawn. -/
def drawnR (key : Int) (n : Nat) (w : List Int) (r : Nat) : List (List Int) := (List.range r).map fun i => (List.range n).map fun c => drawnV key w (i * n + c)
theorem drawnR_succ (key : Int) (n : Nat) (w : List Int) (r : Nat) : drawnR key n w (r + 1) = drawnR key n w r ++ [(List.range n).map fun c => drawnV key w (r * n + c)] := by
  simp only [drawnR, List.range_succ, List.map_append, List.map_cons, List.map_nil]
theorem drawnR_len (key : Int) (n : Nat) (w : List Int) (r : Nat) : (drawnR key n w r).length = r := by simp [drawnR]

theorem s8_rows {v : AV} {w : List Int} (hv : IsI v w) (hw : w.length ≤ 33) (ho : outI 0 1000 w = false) (hs : 0 < sumI w) {n : Nat} (hn0 : 0 < n) (hn : n ≤ 16) {key : Int} (hk : 0 ≤ key ∧ key ≤ 2147483646) :
    ∀ k s, (∃ r : Nat, compact [1, 2, 7, 9, 10, 11] s = ⟨[(1, I64 n), (2, v), (7, I64 (sumI w)), (9, I64 (iterX key (r * n))), (10, g2a ((drawnR key n w r).map vrow)), (11, I64 r)], g2h ((drawnR key n w r).map vrow) [], g2c ((drawnR key n w r).map vrow) [], 0⟩ ∧ r + k = n) →
      ∃ ex s', D P L (.loop [1, 2, 7, 9, 10, 11] c8_3) s = some (ex, s') ∧ ∃ tm, s' = ⟨tm, g2h ((drawnR key n w n).map vrow) [], g2c ((drawnR key n w n).map vrow) [], 0⟩ ∧ ex = .exit 2 ∧ tget tm 10 = g2a ((drawnR key n w n).map vrow) := by
  refine loop_can (I := fun k s => ∃ r : Nat, s = ⟨[(1, I64 n), (2, v), (7, I64 (sumI w)), (9, I64 (iterX key (r * n))), (10, g2a ((drawnR key n w r).map vrow)), (11, I64 r)], g2h ((drawnR key n w r).map vrow) [], g2c ((drawnR key n w r).map vrow) [], 0⟩ ∧ r + k = n)
    (Q := fun ex s' => ∃ tm, s' = ⟨tm, g2h ((drawnR key n w n).map vrow) [], g2c ((drawnR key n w n).map vrow) [], 0⟩ ∧ ex = .exit 2 ∧ tget tm 10 = g2a ((drawnR key n w n).map vrow)) ?_
  rintro k s ⟨r, rfl, hrk⟩
  by_cases hr : r < n
  · left
    simp only [go_sem, Nat.reduceEqDiff, Nat.reduceAdd, Nat.reduceMul, Nat.reduceLT, Nat.reduceLeDiff, Nat.mul_one, c8_3, hv.len, hv.pu, hv.frz, hv.shut, hv.shut1, hv.res, hv.one, hv.cells, show (r : Int) < n by omega]
    generalize hq : D P L (.loop [1, 2, 7, 9, 10, 11, 12, 13] c8_2) _ = q
    obtain ⟨ex, s, rfl, tm, rfl, rfl, g1, g2, g7, g9, g10, g11, g12⟩ := of_key hq (s8_row hv hw ho hs hn (a11 := r) (o := (drawnR key n w r).map vrow) hk (b := r * n) n) ⟨0, by
      generalize (drawnR key n w r).map vrow = o
      simp only [List.range_zero, List.map_nil, I64s]
      cases o <;> simp only [go_sem, Nat.reduceEqDiff, Nat.reduceAdd, Nat.reduceMul, Nat.reduceLT, Nat.reduceLeDiff, Nat.mul_one, compact0, g2a_n, g2a_c, g2b_n, g2b_nc, g2b_cc, g2h_nn, g2h_cn, g2h_nc, g2h_cc, g2c_nn, g2c_cn, g2c_nc, g2c_cc, refs_pure hv.pu, ren_pure _ hv.pu] <;> rfl, by omega⟩
    have hlast := drawnR_succ key n w r
    have hlen : ((drawnR key n w r).map vrow).length = r := by simp [drawnR_len]
    suffices hh : ∃ s', _ = some (Ex.normal, s') ∧ compact [1, 2, 7, 9, 10, 11] s' = ⟨[(1, I64 n), (2, v), (7, I64 (sumI w)), (9, I64 (iterX key ((r + 1) * n))), (10, g2a ((drawnR key n w (r + 1)).map vrow)), (11, I64 ((r + 1 : Nat) : Int))], g2h ((drawnR key n w (r + 1)).map vrow) [], g2c ((drawnR key n w (r + 1)).map vrow) [], 0⟩ by
      obtain ⟨s', e1, e2⟩ := hh
      exact ⟨s', k - 1, e1, by omega, r + 1, e2, by omega⟩
    have hrow : (I64s ((List.range n).map fun j => drawnV key w (r * n + j))).length = n := by simp [I64s]
    have hvr : vrow ((List.range n).map fun j => drawnV key w (r * n + j)) = .vsl false n (I64s ((List.range n).map fun j => drawnV key w (r * n + j))) := by simp [vrow, I64s]
    rw [hlast, List.map_append, List.map_cons, List.map_nil, hvr, Nat.add_mul, Nat.one_mul]
    generalize hqq : I64s ((List.range n).map fun j => drawnV key w (r * n + j)) = q at hrow g12
    generalize hoo : (drawnR key n w r).map vrow = o at hlen g10 g12
    cases o <;> cases q
    · simp at hrow; omega
    · simp only [g2a_n, g2a_c, g2b_n, g2b_nc, g2b_cc, g2h_nn, g2h_cn, g2h_nc, g2h_cc, g2c_nn, g2c_cn, g2c_nc, g2c_cc] at g10 g12
      try simp only [List.length_cons] at hlen hrow
      simp only [go_sem, Nat.reduceEqDiff, Nat.reduceAdd, Nat.reduceMul, Nat.reduceLT, Nat.reduceLeDiff, Nat.mul_one, g2a_n, g2a_c, g2b_n, g2b_nc, g2b_cc, g2h_nn, g2h_cn, g2h_nc, g2h_cc, g2c_nn, g2c_cn, g2c_nc, g2c_cc, compact0, g1, g2, g7, g9, g10, g11, g12, hv.len, hv.pu, hv.frz, hv.shut, hv.shut1, hv.res, hv.one, hv.cells, refs_pure hv.pu, ren_pure _ hv.pu, app_nils, hrow, frzO_all]
      refine ⟨_, rfl, ?_⟩
      rw [show (r : Int) + 1 = ((r + 1 : Nat) : Int) from rfl, wrapN (n := r + 1) (by omega)]
      simp only [go_sem, Nat.reduceEqDiff, Nat.reduceAdd, Nat.reduceMul, Nat.reduceLT, Nat.reduceLeDiff, Nat.mul_one, compact0, refs_pure hv.pu, ren_pure _ hv.pu, g2a_n, g2a_c, g2b_n, g2b_nc, g2b_cc, g2h_nn, g2h_cn, g2h_nc, g2h_cc, g2c_nn, g2c_cn, g2c_nc, g2c_cc, List.length_append, hrow] <;> rfl
    · simp at hrow; omega
    · simp only [g2a_n, g2a_c, g2b_n, g2b_nc, g2b_cc, g2h_nn, g2h_cn, g2h_nc, g2h_cc, g2c_nn, g2c_cn, g2c_nc, g2c_cc] at g10 g12
      try simp only [List.length_cons] at hlen hrow
      simp only [go_sem, Nat.reduceEqDiff, Nat.reduceAdd, Nat.reduceMul, Nat.reduceLT, Nat.reduceLeDiff, Nat.mul_one, g2a_n, g2a_c, g2b_n, g2b_nc, g2b_cc, g2h_nn, g2h_cn, g2h_nc, g2h_cc, g2c_nn, g2c_cn, g2c_nc, g2c_cc, compact0, g1, g2, g7, g9, g10, g11, g12, hv.len, hv.pu, hv.frz, hv.shut, hv.shut1, hv.res, hv.one, hv.cells, refs_pure hv.pu, ren_pure _ hv.pu, app_nils, hrow, frzO_all]
      rw [app_own (ex := false) (pu := true) (sz := 1) (by simp only [go_sem, Nat.reduceEqDiff, Nat.reduceAdd, Nat.reduceMul, Nat.reduceLT, Nat.reduceLeDiff, Nat.mul_one]; rfl) (by simp) (by omega) (by omega) (by decide) (by simp only [go_sem, Nat.reduceEqDiff, Nat.reduceAdd, Nat.reduceMul, Nat.reduceLT, Nat.reduceLeDiff, Nat.mul_one])]
      simp only [go_sem, Nat.reduceEqDiff, Nat.reduceAdd, Nat.reduceMul, Nat.reduceLT, Nat.reduceLeDiff, Nat.mul_one]
      refine ⟨_, rfl, ?_⟩
      rw [show (r : Int) + 1 = ((r + 1 : Nat) : Int) from rfl, wrapN (n := r + 1) (by omega)]
      simp only [go_sem, Nat.reduceEqDiff, Nat.reduceAdd, Nat.reduceMul, Nat.reduceLT, Nat.reduceLeDiff, Nat.mul_one, compact0, refs_pure hv.pu, ren_pure _ hv.pu, g2a_n, g2a_c, g2b_n, g2b_nc, g2b_cc, g2h_nn, g2h_cn, g2h_nc, g2h_cc, g2c_nn, g2c_cn, g2c_nc, g2c_cc, List.length_append, hrow] <;> rfl
  · right
    have hcn : r = n := by omega
    subst hcn
    simp only [go_sem, Nat.reduceEqDiff, Nat.reduceAdd, Nat.reduceMul, Nat.reduceLT, Nat.reduceLeDiff, Nat.mul_one, c8_3, show ¬ (r : Int) < r by omega]
    refine ⟨_, _, rfl, by simp, _, rfl, rfl, ?_⟩
    simp only [go_sem, Nat.reduceEqDiff, Nat.reduceAdd, Nat.reduceMul, Nat.reduceLT, Nat.reduceLeDiff, Nat.mul_one]

theorem drawnS_eq (key : Int) (n : Nat) (w : List Int) : drawnR key n w n = drawnS key n w := rfl

theorem s8 (h : Has P L 8 c8) {v : AV} {w : List Int} (hv : IsI v w) (hw : w.length ≤ 33) (ho : outI 0 1000 w = false) (hs : 0 < sumI w) {n : Nat} (hn0 : 0 < n) (hn : n ≤ 16) {key : Int} (hk : 0 ≤ key ∧ key ≤ 2147483646) :
    ∃ r, Ans P L 8 [I64 key, I64 n, v] r ∧ IsS (shut r) (drawnS key n w) := by
  have sum := loop_can (P := P) (L := L) (live := [0, 1, 2, 7, 8]) (a := c8_0)
    (I := fun k st => ∃ i : Nat, st = ⟨[(0, I64 key), (1, I64 n), (2, v), (7, I64 (sumI (w.take i))), (8, I64 i)], [], 0, 0⟩ ∧ i + k = w.length)
    (Q := fun ex st => ∃ tm ct, st = ⟨tm, [], ct, 0⟩ ∧ ex = .exit 0 ∧ tget tm 0 = I64 key ∧ tget tm 1 = I64 n ∧ tget tm 2 = v ∧ tget tm 7 = I64 (sumI w)) ?_
  · unfold Ans; rw [call_eq h]
    simp only [go_sem, Nat.reduceEqDiff, Nat.reduceAdd, Nat.reduceMul, Nat.reduceLT, Nat.reduceLeDiff, Nat.mul_one, c8, hv.len, hv.pu, hv.frz, hv.shut, hv.shut1, hv.res, hv.one, hv.cells]
    generalize hq : D P L (.loop [0, 1, 2, 7, 8] c8_0) _ = q
    obtain ⟨ex, st, rfl, tm, ct, rfl, rfl, g0, g1, g2, g7⟩ := of_key hq (sum w.length) ⟨0, by simp only [go_sem, Nat.reduceEqDiff, Nat.reduceAdd, Nat.reduceMul, Nat.reduceLT, Nat.reduceLeDiff, Nat.mul_one, compact0, refs_pure hv.pu, ren_pure _ hv.pu] <;> rfl, by omega⟩
    simp only [go_sem, Nat.reduceEqDiff, Nat.reduceAdd, Nat.reduceMul, Nat.reduceLT, Nat.reduceLeDiff, Nat.mul_one, compact0, g0, g1, g2, g7, refs_pure hv.pu, ren_pure _ hv.pu]
    generalize hq2 : D P L (.loop [1, 2, 7, 9, 10, 11] c8_3) _ = q
    obtain ⟨ex, st, rfl, tm, rfl, rfl, g10⟩ := of_key hq2 (s8_rows hv hw ho hs hn0 hn hk n) ⟨0, by
      simp only [drawnR, List.range_zero, List.map_nil, Nat.zero_mul]
      simp only [go_sem, Nat.reduceEqDiff, Nat.reduceAdd, Nat.reduceMul, Nat.reduceLT, Nat.reduceLeDiff, Nat.mul_one, compact0, refs_pure hv.pu, ren_pure _ hv.pu, g2a_n, g2a_c, g2b_n, g2b_nc, g2b_cc, g2h_nn, g2h_cn, g2h_nc, g2h_cc, g2c_nn, g2c_cn, g2c_nc, g2c_cc] <;> rfl, by omega⟩
    have hlen : ((drawnR key n w n).map vrow).length = n := by simp [drawnR_len]
    refine ⟨.fsl false 1 n ((drawnR key n w n).map vrow), ?_, ?_⟩
    · generalize (drawnR key n w n).map vrow = o at hlen g10
      cases o with
      | nil => simp at hlen; omega
      | cons a o =>
        simp only [g2a_n, g2a_c, g2b_n, g2b_nc, g2b_cc, g2h_nn, g2h_cn, g2h_nc, g2h_cc, g2c_nn, g2c_cn, g2c_nc, g2c_cc] at g10
        simp only [List.length_cons] at hlen
        simp only [go_sem, Nat.reduceEqDiff, Nat.reduceAdd, Nat.reduceMul, Nat.reduceLT, Nat.reduceLeDiff, Nat.mul_one, compact0, g10, g2a_n, g2a_c, g2b_n, g2b_nc, g2b_cc, g2h_nn, g2h_cn, g2h_nc, g2h_cc, g2c_nn, g2c_cn, g2c_nc, g2c_cc, hlen]
        exact result_own (hget_hit _ _ _) (by simpa using hlen) (by decide)
    · have := rows_S false (drawnR key n w n)
      rw [drawnR_len] at this
      exact this
  · rintro k st ⟨i, rfl, hk⟩
    by_cases hi : i < w.length
    · left
      have hb := sumI_bound (outI_take ho i)
      have ht : (w.take i).length = i := by rw [List.length_take]; omega
      have hg := outI_get ho i hi
      simp only [go_sem, Nat.reduceEqDiff, Nat.reduceAdd, Nat.reduceMul, Nat.reduceLT, Nat.reduceLeDiff, Nat.mul_one, c8_0, hv.len, hv.pu, hv.frz, hv.shut, hv.shut1, hv.res, hv.one, hv.cells, show (i : Int) < w.length by omega, hv.ixa hi, wrap64 (n := sumI (w.take i) + w[i]) (by omega) (by omega)]
      refine ⟨_, k - 1, rfl, by omega, i + 1, ?_, by omega⟩
      rw [wrap64 (by omega) (by omega), sumI_take hi]
      simp only [go_sem, Nat.reduceEqDiff, Nat.reduceAdd, Nat.reduceMul, Nat.reduceLT, Nat.reduceLeDiff, Nat.mul_one, compact0, refs_pure hv.pu, ren_pure _ hv.pu] <;> rfl
    · right
      simp only [go_sem, Nat.reduceEqDiff, Nat.reduceAdd, Nat.reduceMul, Nat.reduceLT, Nat.reduceLeDiff, Nat.mul_one, c8_0, hv.len, hv.pu, hv.frz, hv.shut, hv.shut1, hv.res, hv.one, hv.cells, show ¬ (i : Int) < w.length by omega]
      refine ⟨_, _, rfl, by simp, _, _, rfl, rfl, ?_⟩
      simp only [go_sem, Nat.reduceEqDiff, Nat.reduceAdd, Nat.reduceMul, Nat.reduceLT, Nat.reduceLeDiff, Nat.mul_one]
      rw [List.take_of_length_le (by omega)]
      simp
end
end VE
end
section
/- Chapter 7, integers: the reference's smoothing. -/
set_option maxRecDepth 100000
namespace VE
open Go (IntKind)
section
variable {P : Prog} {L : Lib}

/-- A kernel's cell, times a screen's. -/
def kterm (s k : List (List Int)) (c r : Nat) (j i : Nat) : Int := kv k j i * cellI s ((c : Int) + i - (k.length / 2 : Nat)) ((r : Int) + j - (k.length / 2 : Nat))

theorem smoothV_eq (s k : List (List Int)) (c r : Nat) : smoothV s k c r = psum (fun j => psum (kterm s k c r j) k.length) k.length := rfl

theorem mul_bound {a b x y : Int} (h1 : -a ≤ x ∧ x ≤ a) (h2 : -b ≤ y ∧ y ≤ b) : -(a * b) ≤ x * y ∧ x * y ≤ a * b := by
  have hb : 0 ≤ b := by omega
  have ha : 0 ≤ a := by omega
  have p1 := Int.mul_nonneg (show 0 ≤ a - x by omega) (show 0 ≤ b - y by omega)
  have p2 := Int.mul_nonneg (show 0 ≤ a + x by omega) (show 0 ≤ b + y by omega)
  have p3 := Int.mul_nonneg (show 0 ≤ a - x by omega) (show 0 ≤ b + y by omega)
  have p4 := Int.mul_nonneg (show 0 ≤ a + x by omega) (show 0 ≤ b - y by omega)
  simp only [Int.sub_mul, Int.mul_sub, Int.add_mul, Int.mul_add] at p1 p2 p3 p4
  have e : a * y = y * a := Int.mul_comm _ _
  omega

theorem kterm_bound {s k : List (List Int)} {n m : Nat} (hs : sqChk n (-1000) 1000 s = 0) (hk : sqChk m (-100) 100 k = 0) (c r j i : Nat) : -100000 ≤ kterm s k c r j i ∧ kterm s k c r j i ≤ 100000 :=
  mul_bound (kv_bound hk (by decide) j i) (cellI_bound hs (by decide) _ _)

theorem psum2_bound {s k : List (List Int)} {n m : Nat} (hs : sqChk n (-1000) 1000 s = 0) (hk : sqChk m (-100) 100 k = 0) (c r j : Nat) (i : Nat) : -(100000 * i) ≤ psum (kterm s k c r j) i ∧ psum (kterm s k c r j) i ≤ 100000 * i :=
  psum_bound (fun i => kterm_bound hs hk c r j i) i

theorem psum_bound' {f : Nat → Int} {b : Int} (h : ∀ k, -b ≤ f k ∧ f k ≤ b) (n : Nat) : -(b * n) ≤ psum f n ∧ psum f n ≤ b * n := psum_bound h n

structure SmT (P : Prog) (L : Lib) : Prop where
  h12 : Has P L 12 c12
  h43 : Has P L 43 c43
  h30 : Has P L 30 c30

theorem kv_get {k : List (List Int)} {j i : Nat} (hj : j < k.length) (hi : i < k[j].length) : k[j][i] = kv k j i := by
  unfold kv
  simp only [List.getD_eq_getElem?_getD, List.getElem?_eq_getElem hj, Option.getD_some, List.getElem?_eq_getElem hi]

theorem s12_0 (h : SmT P L) {v w : AV} {s k : List (List Int)} (hv : IsS v s) (hw : IsS w k) {n m : Nat} (hn : s.length = n) (hn0 : 0 < n) (hn1 : n ≤ 16) (hs : sqChk n (-1000) 1000 s = 0) (hm : k.length = m) (hm1 : m ≤ 5) (hk : sqChk m (-100) 100 k = 0)
    {r c j : Nat} (hr : r < n) (hc : c < n) (hj : j < m) {o q : List AV} :
    ∀ d st, (∃ i : Nat, compact [0, 1, 6, 7, 8, 9, 10, 11, 12, 13] st = ⟨[(0, v), (1, w), (6, I64 (m / 2 : Nat)), (7, g2a o), (8, I64 r), (9, g2b o q), (10, I64 c), (11, I64 (psum (fun j => psum (kterm s k c r j) m) j + psum (kterm s k c r j) i)), (12, I64 j), (13, I64 i)], g2h o q, g2c o q, 0⟩ ∧ i + d = m) →
      ∃ ex s', D P L (.loop [0, 1, 6, 7, 8, 9, 10, 11, 12, 13] c12_0) st = some (ex, s') ∧ ∃ tm, s' = ⟨tm, g2h o q, g2c o q, 0⟩ ∧ ex = .exit 6 ∧ tget tm 0 = v ∧ tget tm 1 = w ∧ tget tm 6 = I64 (m / 2 : Nat) ∧ tget tm 7 = g2a o ∧ tget tm 8 = I64 r ∧ tget tm 9 = g2b o q ∧
        tget tm 10 = I64 c ∧ tget tm 11 = I64 (psum (fun j => psum (kterm s k c r j) m) (j + 1)) ∧ tget tm 12 = I64 j := by
  refine loop_can (I := fun d st => ∃ i : Nat, st = ⟨[(0, v), (1, w), (6, I64 (m / 2 : Nat)), (7, g2a o), (8, I64 r), (9, g2b o q), (10, I64 c), (11, I64 (psum (fun j => psum (kterm s k c r j) m) j + psum (kterm s k c r j) i)), (12, I64 j), (13, I64 i)], g2h o q, g2c o q, 0⟩ ∧ i + d = m)
    (Q := fun ex s' => ∃ tm, s' = ⟨tm, g2h o q, g2c o q, 0⟩ ∧ ex = .exit 6 ∧ tget tm 0 = v ∧ tget tm 1 = w ∧ tget tm 6 = I64 (m / 2 : Nat) ∧ tget tm 7 = g2a o ∧ tget tm 8 = I64 r ∧ tget tm 9 = g2b o q ∧
        tget tm 10 = I64 c ∧ tget tm 11 = I64 (psum (fun j => psum (kterm s k c r j) m) (j + 1)) ∧ tget tm 12 = I64 j) ?_
  rintro d st ⟨i, rfl, hid⟩
  by_cases hi : i < m
  · left
    have hj' : j < k.length := by omega
    obtain ⟨kr, rest, hr1, hr2⟩ := hw.ixa hj'
    have hkj := sqChk_get hk j hj'
    have hi' : i < k[j].length := by omega
    have b1 := kterm_bound hs hk c r j i
    have b2 := psum2_bound hs hk c r j i
    have b3 := psum_bound (f := fun j => psum (kterm s k c r j) m) (b := 500000) (fun j => by have := psum2_bound hs hk c r j m; omega) j
    have hcell := s43 h.h43 hv hn hn0 (by omega) (fun i hi => (sqChk_get hs i hi).1) ((c : Int) + i - (m / 2 : Nat)) ((r : Int) + j - (m / 2 : Nat))
    have hkt : kterm s k c r j i = kv k j i * cellI s ((c : Int) + i - (m / 2 : Nat)) ((r : Int) + j - (m / 2 : Nat)) := by unfold kterm; rw [hm]
    unfold Ans at hcell
    simp only [go_sem, Nat.reduceEqDiff, Nat.reduceAdd, Nat.reduceMul, Nat.reduceLT, Nat.reduceLeDiff, Nat.mul_one, c12_0, hv.len, hv.pu, hv.frz, hv.shut, hv.shut1, hv.res, hv.one, hv.cells, hw.len, hw.pu, hw.frz, hw.shut, hw.shut1, hw.res, hw.one, hw.cells, hm, show (i : Int) < m by omega, hr2, hr1.ixa hi', hr1.len, hr1.pu, hr1.frz, hr1.shut, hr1.shut1, hr1.res, hr1.one, hr1.cells, wrap64 (n := (c : Int) + i) (by omega) (by omega), wrap64 (n := (c : Int) + i - (m / 2 : Nat)) (by omega) (by omega),
      wrap64 (n := (r : Int) + j) (by omega) (by omega), wrap64 (n := (r : Int) + j - (m / 2 : Nat)) (by omega) (by omega), hcell, kv_get hj' hi', ← hkt, wrap64 (n := kterm s k c r j i) (by omega) (by omega),
      wrap64 (n := psum (fun j => psum (kterm s k c r j) m) j + psum (kterm s k c r j) i + kterm s k c r j i) (by omega) (by omega), wrap64 (n := (i : Int) + 1) (by omega) (by omega)]
    refine ⟨_, d - 1, rfl, by omega, i + 1, ?_, by omega⟩
    simp only [psum, ← Int.add_assoc]
    cases o <;> cases q <;> simp only [go_sem, Nat.reduceEqDiff, Nat.reduceAdd, Nat.reduceMul, Nat.reduceLT, Nat.reduceLeDiff, Nat.mul_one, compact0, g2a_n, g2a_c, g2b_n, g2b_nc, g2b_cc, g2h_nn, g2h_cn, g2h_nc, g2h_cc, g2c_nn, g2c_cn, g2c_nc, g2c_cc, refs_pure hv.pu, ren_pure _ hv.pu, refs_pure hw.pu, ren_pure _ hw.pu] <;> rfl
  · right
    have : i = m := by omega
    subst this
    simp only [go_sem, Nat.reduceEqDiff, Nat.reduceAdd, Nat.reduceMul, Nat.reduceLT, Nat.reduceLeDiff, Nat.mul_one, c12_0, hv.len, hv.pu, hv.frz, hv.shut, hv.shut1, hv.res, hv.one, hv.cells, hw.len, hw.pu, hw.frz, hw.shut, hw.shut1, hw.res, hw.one, hw.cells, hm, show ¬ (i : Int) < i by omega]
    refine ⟨_, _, rfl, by simp, _, rfl, rfl, ?_⟩
    simp only [go_sem, Nat.reduceEqDiff, Nat.reduceAdd, Nat.reduceMul, Nat.reduceLT, Nat.reduceLeDiff, Nat.mul_one, psum]
    simp

theorem s12_1 (h : SmT P L) {v w : AV} {s k : List (List Int)} (hv : IsS v s) (hw : IsS w k) {n m : Nat} (hn : s.length = n) (hn0 : 0 < n) (hn1 : n ≤ 16) (hs : sqChk n (-1000) 1000 s = 0) (hm : k.length = m) (hm1 : m ≤ 5) (hk : sqChk m (-100) 100 k = 0)
    {r c : Nat} (hr : r < n) (hc : c < n) {o q : List AV} :
    ∀ d st, (∃ j : Nat, compact [0, 1, 6, 7, 8, 9, 10, 11, 12] st = ⟨[(0, v), (1, w), (6, I64 (m / 2 : Nat)), (7, g2a o), (8, I64 r), (9, g2b o q), (10, I64 c), (11, I64 (psum (fun j => psum (kterm s k c r j) m) j)), (12, I64 j)], g2h o q, g2c o q, 0⟩ ∧ j + d = m) →
      ∃ ex s', D P L (.loop [0, 1, 6, 7, 8, 9, 10, 11, 12] c12_1) st = some (ex, s') ∧ ∃ tm, s' = ⟨tm, g2h o q, g2c o q, 0⟩ ∧ ex = .exit 4 ∧ tget tm 0 = v ∧ tget tm 1 = w ∧ tget tm 6 = I64 (m / 2 : Nat) ∧ tget tm 7 = g2a o ∧ tget tm 8 = I64 r ∧ tget tm 9 = g2b o q ∧
        tget tm 10 = I64 c ∧ tget tm 11 = I64 (smoothV s k c r) := by
  refine loop_can (I := fun d st => ∃ j : Nat, st = ⟨[(0, v), (1, w), (6, I64 (m / 2 : Nat)), (7, g2a o), (8, I64 r), (9, g2b o q), (10, I64 c), (11, I64 (psum (fun j => psum (kterm s k c r j) m) j)), (12, I64 j)], g2h o q, g2c o q, 0⟩ ∧ j + d = m)
    (Q := fun ex s' => ∃ tm, s' = ⟨tm, g2h o q, g2c o q, 0⟩ ∧ ex = .exit 4 ∧ tget tm 0 = v ∧ tget tm 1 = w ∧ tget tm 6 = I64 (m / 2 : Nat) ∧ tget tm 7 = g2a o ∧ tget tm 8 = I64 r ∧ tget tm 9 = g2b o q ∧
        tget tm 10 = I64 c ∧ tget tm 11 = I64 (smoothV s k c r)) ?_
  rintro d st ⟨j, rfl, hjd⟩
  by_cases hj : j < m
  · left
    simp only [go_sem, Nat.reduceEqDiff, Nat.reduceAdd, Nat.reduceMul, Nat.reduceLT, Nat.reduceLeDiff, Nat.mul_one, c12_1, hv.len, hv.pu, hv.frz, hv.shut, hv.shut1, hv.res, hv.one, hv.cells, hw.len, hw.pu, hw.frz, hw.shut, hw.shut1, hw.res, hw.one, hw.cells, hm, show (j : Int) < m by omega]
    generalize hq : D P L (.loop [0, 1, 6, 7, 8, 9, 10, 11, 12, 13] c12_0) _ = q'
    obtain ⟨ex, st, rfl, tm, rfl, rfl, g0, g1, g6, g7, g8, g9, g10, g11, g12⟩ := of_key hq (s12_0 h hv hw hn hn0 hn1 hs hm hm1 hk hr hc hj (o := o) (q := q) m) ⟨0, by
      simp only [psum, Int.add_zero]
      cases o <;> cases q <;> simp only [go_sem, Nat.reduceEqDiff, Nat.reduceAdd, Nat.reduceMul, Nat.reduceLT, Nat.reduceLeDiff, Nat.mul_one, compact0, g2a_n, g2a_c, g2b_n, g2b_nc, g2b_cc, g2h_nn, g2h_cn, g2h_nc, g2h_cc, g2c_nn, g2c_cn, g2c_nc, g2c_cc, refs_pure hv.pu, ren_pure _ hv.pu, refs_pure hw.pu, ren_pure _ hw.pu] <;> rfl, by omega⟩
    simp only [go_sem, Nat.reduceEqDiff, Nat.reduceAdd, Nat.reduceMul, Nat.reduceLT, Nat.reduceLeDiff, Nat.mul_one]
    suffices hh : ∃ s', _ = some (Ex.normal, s') ∧ compact [0, 1, 6, 7, 8, 9, 10, 11, 12] s' = ⟨[(0, v), (1, w), (6, I64 (m / 2 : Nat)), (7, g2a o), (8, I64 r), (9, g2b o q), (10, I64 c), (11, I64 (psum (fun j => psum (kterm s k c r j) m) (j + 1))), (12, I64 ((j + 1 : Nat) : Int))], g2h o q, g2c o q, 0⟩ by
      obtain ⟨s', e1, e2⟩ := hh
      exact ⟨s', d - 1, e1, by omega, j + 1, e2, by omega⟩
    cases o <;> cases q
    all_goals
      simp only [g2a_n, g2a_c, g2b_n, g2b_nc, g2b_cc, g2h_nn, g2h_cn, g2h_nc, g2h_cc, g2c_nn, g2c_cn, g2c_nc, g2c_cc] at g7 g9
      simp only [go_sem, Nat.reduceEqDiff, Nat.reduceAdd, Nat.reduceMul, Nat.reduceLT, Nat.reduceLeDiff, Nat.mul_one, g2a_n, g2a_c, g2b_n, g2b_nc, g2b_cc, g2h_nn, g2h_cn, g2h_nc, g2h_cc, g2c_nn, g2c_cn, g2c_nc, g2c_cc, compact0, g0, g1, g6, g7, g8, g9, g10, g11, g12, refs_pure hv.pu, ren_pure _ hv.pu, refs_pure hw.pu, ren_pure _ hw.pu, wrap64 (n := (j : Int) + 1) (by omega) (by omega)]
      refine ⟨_, rfl, ?_⟩
      simp only [go_sem, Nat.reduceEqDiff, Nat.reduceAdd, Nat.reduceMul, Nat.reduceLT, Nat.reduceLeDiff, Nat.mul_one, g2a_n, g2a_c, g2b_n, g2b_nc, g2b_cc, g2h_nn, g2h_cn, g2h_nc, g2h_cc, g2c_nn, g2c_cn, g2c_nc, g2c_cc, compact0, refs_pure hv.pu, ren_pure _ hv.pu, refs_pure hw.pu, ren_pure _ hw.pu] <;> rfl
  · right
    have : j = m := by omega
    subst this
    simp only [go_sem, Nat.reduceEqDiff, Nat.reduceAdd, Nat.reduceMul, Nat.reduceLT, Nat.reduceLeDiff, Nat.mul_one, c12_1, hv.len, hv.pu, hv.frz, hv.shut, hv.shut1, hv.res, hv.one, hv.cells, hw.len, hw.pu, hw.frz, hw.shut, hw.shut1, hw.res, hw.one, hw.cells, hm, show ¬ (j : Int) < j by omega]
    refine ⟨_, _, rfl, by simp, _, rfl, rfl, ?_⟩
    rw [smoothV_eq, hm]
    simp only [go_sem, Nat.reduceEqDiff, Nat.reduceAdd, Nat.reduceMul, Nat.reduceLT, Nat.reduceLeDiff, Nat.mul_one]
    simp

/-- The first values of a smoothed row. -/
def smRow (s k : List (List Int)) (r : Nat) (c : Nat) : List Int := (List.range c).map fun c => smoothV s k c r
theorem smRow_succ (s k : List (List Int)) (r c : Nat) : smRow s k r (c + 1) = smRow s k r c ++ [smoothV s k c r] := by
  simp only [smRow, List.range_succ, List.map_append, List.map_cons, List.map_nil]
theorem smRow_len (s k : List (List Int)) (r c : Nat) : (smRow s k r c).length = c := by simp [smRow]

theorem outI_append {lo hi : Int} : ∀ {l m : List Int}, outI lo hi (l ++ m) = (outI lo hi l || outI lo hi m)
  | [], m => by simp [outI]
  | a :: l, m => by
    simp only [List.cons_append, outI]
    split
    · simp
    · exact outI_append

theorem smRow_out {s k : List (List Int)} {r c n : Nat} (h : outI (-1000) 1000 (smRow s k r c) = true) (hc : c ≤ n) : outI (-1000) 1000 (smRow s k r n) = true := by
  induction n with
  | zero => have : c = 0 := by omega
            subst this; exact h
  | succ n ih =>
    by_cases e : c = n + 1
    · subst e; exact h
    · rw [smRow_succ, outI_append, ih (by omega)]; rfl

theorem s12_2 (h : SmT P L) {v w : AV} {s k : List (List Int)} (hv : IsS v s) (hw : IsS w k) {n m : Nat} (hn : s.length = n) (hn0 : 0 < n) (hn1 : n ≤ 16) (hs : sqChk n (-1000) 1000 s = 0) (hm : k.length = m) (hm1 : m ≤ 5) (hk : sqChk m (-100) 100 k = 0)
    {r : Nat} (hr : r < n) {o : List AV} :
    ∀ d st, (∃ c : Nat, compact [0, 1, 6, 7, 8, 9, 10] st = ⟨[(0, v), (1, w), (6, I64 (m / 2 : Nat)), (7, g2a o), (8, I64 r), (9, g2b o (I64s (smRow s k r c))), (10, I64 c)], g2h o (I64s (smRow s k r c)), g2c o (I64s (smRow s k r c)), 0⟩ ∧ c + d = n ∧ outI (-1000) 1000 (smRow s k r c) = false) →
      ∃ ex s', D P L (.loop [0, 1, 6, 7, 8, 9, 10] c12_2) st = some (ex, s') ∧ ∃ tm hp ct, s' = ⟨tm, hp, ct, 0⟩ ∧ ((ex = .ret ∧ tget tm 4 = .nils ∧ tget tm 5 = .bool false ∧ outI (-1000) 1000 (smRow s k r n) = true) ∨
        (ex = .exit 2 ∧ hp = g2h o (I64s (smRow s k r n)) ∧ tget tm 0 = v ∧ tget tm 1 = w ∧ tget tm 6 = I64 (m / 2 : Nat) ∧ tget tm 7 = g2a o ∧ tget tm 8 = I64 r ∧ tget tm 9 = g2b o (I64s (smRow s k r n)) ∧ outI (-1000) 1000 (smRow s k r n) = false)) := by
  refine loop_can (I := fun d st => ∃ c : Nat, st = ⟨[(0, v), (1, w), (6, I64 (m / 2 : Nat)), (7, g2a o), (8, I64 r), (9, g2b o (I64s (smRow s k r c))), (10, I64 c)], g2h o (I64s (smRow s k r c)), g2c o (I64s (smRow s k r c)), 0⟩ ∧ c + d = n ∧ outI (-1000) 1000 (smRow s k r c) = false)
    (Q := fun ex s' => ∃ tm hp ct, s' = ⟨tm, hp, ct, 0⟩ ∧ ((ex = .ret ∧ tget tm 4 = .nils ∧ tget tm 5 = .bool false ∧ outI (-1000) 1000 (smRow s k r n) = true) ∨
        (ex = .exit 2 ∧ hp = g2h o (I64s (smRow s k r n)) ∧ tget tm 0 = v ∧ tget tm 1 = w ∧ tget tm 6 = I64 (m / 2 : Nat) ∧ tget tm 7 = g2a o ∧ tget tm 8 = I64 r ∧ tget tm 9 = g2b o (I64s (smRow s k r n)) ∧ outI (-1000) 1000 (smRow s k r n) = false))) ?_
  rintro d st ⟨c, rfl, hcd, hout⟩
  by_cases hc : c < n
  · simp only [go_sem, Nat.reduceEqDiff, Nat.reduceAdd, Nat.reduceMul, Nat.reduceLT, Nat.reduceLeDiff, Nat.mul_one, c12_2, hv.len, hv.pu, hv.frz, hv.shut, hv.shut1, hv.res, hv.one, hv.cells, hw.len, hw.pu, hw.frz, hw.shut, hw.shut1, hw.res, hw.one, hw.cells, hn, show (c : Int) < n by omega]
    generalize hq : D P L (.loop [0, 1, 6, 7, 8, 9, 10, 11, 12] c12_1) _ = q'
    obtain ⟨ex, st, rfl, tm, rfl, rfl, g0, g1, g6, g7, g8, g9, g10, g11⟩ := of_key hq (s12_1 h hv hw hn hn0 hn1 hs hm hm1 hk hr hc (o := o) (q := I64s (smRow s k r c)) m) ⟨0, by
      generalize I64s (smRow s k r c) = q
      cases o <;> cases q <;> simp only [go_sem, Nat.reduceEqDiff, Nat.reduceAdd, Nat.reduceMul, Nat.reduceLT, Nat.reduceLeDiff, Nat.mul_one, compact0, g2a_n, g2a_c, g2b_n, g2b_nc, g2b_cc, g2h_nn, g2h_cn, g2h_nc, g2h_cc, g2c_nn, g2c_cn, g2c_nc, g2c_cc, refs_pure hv.pu, ren_pure _ hv.pu, refs_pure hw.pu, ren_pure _ hw.pu] <;> rfl, by omega⟩
    simp only [go_sem, Nat.reduceEqDiff, Nat.reduceAdd, Nat.reduceMul, Nat.reduceLT, Nat.reduceLeDiff, Nat.mul_one]
    have hlen : (I64s (smRow s k r c)).length = c := by simp [I64s, smRow_len]
    have hlast : I64s (smRow s k r (c + 1)) = I64s (smRow s k r c) ++ [I64 (smoothV s k c r)] := by simp [I64s, smRow_succ]
    by_cases hb : smoothV s k c r < -1000 ∨ 1000 < smoothV s k c r
    · right
      have hbad : outI (-1000) 1000 (smRow s k r n) = true := by
        refine smRow_out (c := c + 1) ?_ (by omega)
        rw [smRow_succ, outI_append, hout]
        simp [outI, hb]
      generalize hqq : I64s (smRow s k r c) = q at hlen g9
      cases o <;> cases q
      all_goals
        simp only [g2a_n, g2a_c, g2b_n, g2b_nc, g2b_cc, g2h_nn, g2h_cn, g2h_nc, g2h_cc, g2c_nn, g2c_cn, g2c_nc, g2c_cc] at g7 g9
        simp only [go_sem, Nat.reduceEqDiff, Nat.reduceAdd, Nat.reduceMul, Nat.reduceLT, Nat.reduceLeDiff, Nat.mul_one, g2a_n, g2a_c, g2b_n, g2b_nc, g2b_cc, g2h_nn, g2h_cn, g2h_nc, g2h_cc, g2c_nn, g2c_cn, g2c_nc, g2c_cc, compact0, g0, g1, g6, g7, g8, g9, g10, g11, refs_pure hv.pu, ren_pure _ hv.pu, refs_pure hw.pu, ren_pure _ hw.pu, s30 h.h30, hb, if_true, Int.reduceEq]
        refine ⟨_, _, rfl, by simp, _, _, _, rfl, .inl ⟨rfl, ?_⟩⟩
        simp only [go_sem, Nat.reduceEqDiff, Nat.reduceAdd, Nat.reduceMul, Nat.reduceLT, Nat.reduceLeDiff, Nat.mul_one, hbad]
        simp
    · left
      have hok : outI (-1000) 1000 (smRow s k r (c + 1)) = false := by
        rw [smRow_succ, outI_append, hout]
        simp only [outI, hb, if_false]; rfl
      suffices hh : ∃ s', _ = some (Ex.normal, s') ∧ compact [0, 1, 6, 7, 8, 9, 10] s' = ⟨[(0, v), (1, w), (6, I64 (m / 2 : Nat)), (7, g2a o), (8, I64 r), (9, g2b o (I64s (smRow s k r (c + 1)))), (10, I64 ((c + 1 : Nat) : Int))], g2h o (I64s (smRow s k r (c + 1))), g2c o (I64s (smRow s k r (c + 1))), 0⟩ by
        obtain ⟨s', e1, e2⟩ := hh
        exact ⟨s', d - 1, e1, by omega, c + 1, e2, by omega, hok⟩
      rw [hlast]
      generalize hqq : I64s (smRow s k r c) = q at hlen g9
      cases o <;> cases q
      all_goals
        simp only [g2a_n, g2a_c, g2b_n, g2b_nc, g2b_cc, g2h_nn, g2h_cn, g2h_nc, g2h_cc, g2c_nn, g2c_cn, g2c_nc, g2c_cc] at g7 g9
        try simp only [List.length_cons] at hlen
        simp only [go_sem, Nat.reduceEqDiff, Nat.reduceAdd, Nat.reduceMul, Nat.reduceLT, Nat.reduceLeDiff, Nat.mul_one, g2a_n, g2a_c, g2b_n, g2b_nc, g2b_cc, g2h_nn, g2h_cn, g2h_nc, g2h_cc, g2c_nn, g2c_cn, g2c_nc, g2c_cc, compact0, g0, g1, g6, g7, g8, g9, g10, g11, refs_pure hv.pu, ren_pure _ hv.pu, refs_pure hw.pu, ren_pure _ hw.pu, s30 h.h30, hb, if_false, app_nils]
        first
          | rw [app_own (ex := false) (pu := true) (sz := 1) (by simp only [go_sem, Nat.reduceEqDiff, Nat.reduceAdd, Nat.reduceMul, Nat.reduceLT, Nat.reduceLeDiff, Nat.mul_one]; rfl) (by simp) (by omega) (by omega) (by decide) (by simp only [go_sem, Nat.reduceEqDiff, Nat.reduceAdd, Nat.reduceMul, Nat.reduceLT, Nat.reduceLeDiff, Nat.mul_one])]
            simp only [go_sem, Nat.reduceEqDiff, Nat.reduceAdd, Nat.reduceMul, Nat.reduceLT, Nat.reduceLeDiff, Nat.mul_one]
          | skip
        refine ⟨_, rfl, ?_⟩
        rw [show (c : Int) + 1 = ((c + 1 : Nat) : Int) from rfl, wrapN (n := c + 1) (by omega)]
        simp only [go_sem, Nat.reduceEqDiff, Nat.reduceAdd, Nat.reduceMul, Nat.reduceLT, Nat.reduceLeDiff, Nat.mul_one, compact0, refs_pure hv.pu, ren_pure _ hv.pu, refs_pure hw.pu, ren_pure _ hw.pu, g2a_n, g2a_c, g2b_n, g2b_nc, g2b_cc, g2h_nn, g2h_cn, g2h_nc, g2h_cc, g2c_nn, g2c_cn, g2c_nc, g2c_cc, List.length_append] <;> rfl
  · right
    have : c = n := by omega
    subst this
    simp only [go_sem, Nat.reduceEqDiff, Nat.reduceAdd, Nat.reduceMul, Nat.reduceLT, Nat.reduceLeDiff, Nat.mul_one, c12_2, hv.len, hv.pu, hv.frz, hv.shut, hv.shut1, hv.res, hv.one, hv.cells, hw.len, hw.pu, hw.frz, hw.shut, hw.shut1, hw.res, hw.one, hw.cells, hn, show ¬ (c : Int) < c by omega]
    refine ⟨_, _, rfl, by simp, _, _, _, rfl, .inr ⟨rfl, rfl, ?_⟩⟩
    simp only [go_sem, Nat.reduceEqDiff, Nat.reduceAdd, Nat.reduceMul, Nat.reduceLT, Nat.reduceLeDiff, Nat.mul_one, hout]
    simp

/-- The first rows of a smoothed screen. -/
def smRows (s k : List (List Int)) (n : Nat) (r : Nat) : List (List Int) := (List.range r).map fun r => smRow s k r n
theorem smRows_succ (s k : List (List Int)) (n r : Nat) : smRows s k n (r + 1) = smRows s k n r ++ [smRow s k r n] := by
  simp only [smRows, List.range_succ, List.map_append, List.map_cons, List.map_nil]
theorem smRows_len (s k : List (List Int)) (n r : Nat) : (smRows s k n r).length = r := by simp [smRows]

/-- Is a value too large? -/
def outT : List (List Int) → Bool
  | [] => false
  | l :: r => outI (-1000) 1000 l || outT r
theorem outT_append : ∀ {a b : List (List Int)}, outT (a ++ b) = (outT a || outT b)
  | [], b => by simp [outT]
  | x :: a, b => by simp [outT, outT_append (a := a), Bool.or_assoc]
theorem smRows_out {s k : List (List Int)} {r n m : Nat} (h : outT (smRows s k n r) = true) (hr : r ≤ m) : outT (smRows s k n m) = true := by
  induction m with
  | zero => have : r = 0 := by omega
            subst this; exact h
  | succ m ih =>
    by_cases e : r = m + 1
    · subst e; exact h
    · rw [smRows_succ, outT_append, ih (by omega)]; rfl

theorem s12_3 (h : SmT P L) {v w : AV} {s k : List (List Int)} (hv : IsS v s) (hw : IsS w k) {n m : Nat} (hn : s.length = n) (hn0 : 0 < n) (hn1 : n ≤ 16) (hs : sqChk n (-1000) 1000 s = 0) (hm : k.length = m) (hm1 : m ≤ 5) (hk : sqChk m (-100) 100 k = 0) :
    ∀ d st, (∃ r : Nat, compact [0, 1, 6, 7, 8] st = ⟨[(0, v), (1, w), (6, I64 (m / 2 : Nat)), (7, g2a ((smRows s k n r).map vrow)), (8, I64 r)], g2h ((smRows s k n r).map vrow) [], g2c ((smRows s k n r).map vrow) [], 0⟩ ∧ r + d = n ∧ outT (smRows s k n r) = false) →
      ∃ ex s', D P L (.loop [0, 1, 6, 7, 8] c12_3) st = some (ex, s') ∧ ∃ tm hp ct, s' = ⟨tm, hp, ct, 0⟩ ∧ ((ex = .ret ∧ tget tm 4 = .nils ∧ tget tm 5 = .bool false ∧ outT (smRows s k n n) = true) ∨
        (ex = .exit 0 ∧ hp = g2h ((smRows s k n n).map vrow) [] ∧ tget tm 7 = g2a ((smRows s k n n).map vrow) ∧ outT (smRows s k n n) = false)) := by
  refine loop_can (I := fun d st => ∃ r : Nat, st = ⟨[(0, v), (1, w), (6, I64 (m / 2 : Nat)), (7, g2a ((smRows s k n r).map vrow)), (8, I64 r)], g2h ((smRows s k n r).map vrow) [], g2c ((smRows s k n r).map vrow) [], 0⟩ ∧ r + d = n ∧ outT (smRows s k n r) = false)
    (Q := fun ex s' => ∃ tm hp ct, s' = ⟨tm, hp, ct, 0⟩ ∧ ((ex = .ret ∧ tget tm 4 = .nils ∧ tget tm 5 = .bool false ∧ outT (smRows s k n n) = true) ∨
        (ex = .exit 0 ∧ hp = g2h ((smRows s k n n).map vrow) [] ∧ tget tm 7 = g2a ((smRows s k n n).map vrow) ∧ outT (smRows s k n n) = false))) ?_
  rintro d st ⟨r, rfl, hrd, hout⟩
  by_cases hr : r < n
  · simp only [go_sem, Nat.reduceEqDiff, Nat.reduceAdd, Nat.reduceMul, Nat.reduceLT, Nat.reduceLeDiff, Nat.mul_one, c12_3, hv.len, hv.pu, hv.frz, hv.shut, hv.shut1, hv.res, hv.one, hv.cells, hw.len, hw.pu, hw.frz, hw.shut, hw.shut1, hw.res, hw.one, hw.cells, hn, show (r : Int) < n by omega]
    generalize hq : D P L (.loop [0, 1, 6, 7, 8, 9, 10] c12_2) _ = q'
    obtain ⟨ex, st, rfl, tm, hp, ct, rfl, hres⟩ := of_key hq (s12_2 h hv hw hn hn0 hn1 hs hm hm1 hk hr (o := (smRows s k n r).map vrow) n) ⟨0, by
      generalize (smRows s k n r).map vrow = o
      simp only [smRow, List.range_zero, List.map_nil, I64s]
      cases o <;> simp only [go_sem, Nat.reduceEqDiff, Nat.reduceAdd, Nat.reduceMul, Nat.reduceLT, Nat.reduceLeDiff, Nat.mul_one, compact0, g2a_n, g2a_c, g2b_n, g2b_nc, g2b_cc, g2h_nn, g2h_cn, g2h_nc, g2h_cc, g2c_nn, g2c_cn, g2c_nc, g2c_cc, refs_pure hv.pu, ren_pure _ hv.pu, refs_pure hw.pu, ren_pure _ hw.pu] <;> rfl, by omega, by simp [smRow, outI]⟩
    rcases hres with ⟨rfl, g4, g5, hbad⟩ | ⟨rfl, rfl, g0, g1, g6, g7, g8, g9, hok⟩
    · right
      simp only [go_sem, Nat.reduceEqDiff, Nat.reduceAdd, Nat.reduceMul, Nat.reduceLT, Nat.reduceLeDiff, Nat.mul_one]
      refine ⟨_, _, rfl, by simp, _, _, _, rfl, .inl ⟨rfl, g4, g5, ?_⟩⟩
      refine smRows_out (r := r + 1) ?_ (by omega)
      rw [smRows_succ, outT_append, hout]
      simp [outT, hbad]
    · left
      have hlen : ((smRows s k n r).map vrow).length = r := by simp [smRows_len]
      have hrow : (I64s (smRow s k r n)).length = n := by simp [I64s, smRow_len]
      have hvr : vrow (smRow s k r n) = .vsl false n (I64s (smRow s k r n)) := by simp [vrow, I64s, smRow_len]
      have hok' : outT (smRows s k n (r + 1)) = false := by
        rw [smRows_succ, outT_append, hout]
        simp [outT, hok]
      suffices hh : ∃ s', _ = some (Ex.normal, s') ∧ compact [0, 1, 6, 7, 8] s' = ⟨[(0, v), (1, w), (6, I64 (m / 2 : Nat)), (7, g2a ((smRows s k n (r + 1)).map vrow)), (8, I64 ((r + 1 : Nat) : Int))], g2h ((smRows s k n (r + 1)).map vrow) [], g2c ((smRows s k n (r + 1)).map vrow) [], 0⟩ by
        obtain ⟨s', e1, e2⟩ := hh
        exact ⟨s', d - 1, e1, by omega, r + 1, e2, by omega, hok'⟩
      rw [smRows_succ, List.map_append, List.map_cons, List.map_nil, hvr]
      generalize hqq : I64s (smRow s k r n) = q at hrow g9
      generalize hoo : (smRows s k n r).map vrow = o at hlen g7 g9
      cases o <;> cases q
      · simp at hrow; omega
      · simp only [g2a_n, g2a_c, g2b_n, g2b_nc, g2b_cc, g2h_nn, g2h_cn, g2h_nc, g2h_cc, g2c_nn, g2c_cn, g2c_nc, g2c_cc] at g7 g9
        try simp only [List.length_cons] at hlen hrow
        simp only [go_sem, Nat.reduceEqDiff, Nat.reduceAdd, Nat.reduceMul, Nat.reduceLT, Nat.reduceLeDiff, Nat.mul_one, g2a_n, g2a_c, g2b_n, g2b_nc, g2b_cc, g2h_nn, g2h_cn, g2h_nc, g2h_cc, g2c_nn, g2c_cn, g2c_nc, g2c_cc, compact0, g0, g1, g6, g7, g8, g9, refs_pure hv.pu, ren_pure _ hv.pu, refs_pure hw.pu, ren_pure _ hw.pu, app_nils, hrow, frzO_all]
        refine ⟨_, rfl, ?_⟩
        rw [show (r : Int) + 1 = ((r + 1 : Nat) : Int) from rfl, wrapN (n := r + 1) (by omega)]
        simp only [go_sem, Nat.reduceEqDiff, Nat.reduceAdd, Nat.reduceMul, Nat.reduceLT, Nat.reduceLeDiff, Nat.mul_one, compact0, refs_pure hv.pu, ren_pure _ hv.pu, refs_pure hw.pu, ren_pure _ hw.pu, g2a_n, g2a_c, g2b_n, g2b_nc, g2b_cc, g2h_nn, g2h_cn, g2h_nc, g2h_cc, g2c_nn, g2c_cn, g2c_nc, g2c_cc, List.length_append, hrow] <;> rfl
      · simp at hrow; omega
      · simp only [g2a_n, g2a_c, g2b_n, g2b_nc, g2b_cc, g2h_nn, g2h_cn, g2h_nc, g2h_cc, g2c_nn, g2c_cn, g2c_nc, g2c_cc] at g7 g9
        try simp only [List.length_cons] at hlen hrow
        simp only [go_sem, Nat.reduceEqDiff, Nat.reduceAdd, Nat.reduceMul, Nat.reduceLT, Nat.reduceLeDiff, Nat.mul_one, g2a_n, g2a_c, g2b_n, g2b_nc, g2b_cc, g2h_nn, g2h_cn, g2h_nc, g2h_cc, g2c_nn, g2c_cn, g2c_nc, g2c_cc, compact0, g0, g1, g6, g7, g8, g9, refs_pure hv.pu, ren_pure _ hv.pu, refs_pure hw.pu, ren_pure _ hw.pu, app_nils, hrow, frzO_all]
        rw [app_own (ex := false) (pu := true) (sz := 1) (by simp only [go_sem, Nat.reduceEqDiff, Nat.reduceAdd, Nat.reduceMul, Nat.reduceLT, Nat.reduceLeDiff, Nat.mul_one]; rfl) (by simp) (by omega) (by omega) (by decide) (by simp only [go_sem, Nat.reduceEqDiff, Nat.reduceAdd, Nat.reduceMul, Nat.reduceLT, Nat.reduceLeDiff, Nat.mul_one])]
        simp only [go_sem, Nat.reduceEqDiff, Nat.reduceAdd, Nat.reduceMul, Nat.reduceLT, Nat.reduceLeDiff, Nat.mul_one]
        refine ⟨_, rfl, ?_⟩
        rw [show (r : Int) + 1 = ((r + 1 : Nat) : Int) from rfl, wrapN (n := r + 1) (by omega)]
        simp only [go_sem, Nat.reduceEqDiff, Nat.reduceAdd, Nat.reduceMul, Nat.reduceLT, Nat.reduceLeDiff, Nat.mul_one, compact0, refs_pure hv.pu, ren_pure _ hv.pu, refs_pure hw.pu, ren_pure _ hw.pu, g2a_n, g2a_c, g2b_n, g2b_nc, g2b_cc, g2h_nn, g2h_cn, g2h_nc, g2h_cc, g2c_nn, g2c_cn, g2c_nc, g2c_cc, List.length_append, hrow] <;> rfl
  · right
    have : r = n := by omega
    subst this
    simp only [go_sem, Nat.reduceEqDiff, Nat.reduceAdd, Nat.reduceMul, Nat.reduceLT, Nat.reduceLeDiff, Nat.mul_one, c12_3, hv.len, hv.pu, hv.frz, hv.shut, hv.shut1, hv.res, hv.one, hv.cells, hw.len, hw.pu, hw.frz, hw.shut, hw.shut1, hw.res, hw.one, hw.cells, hn, show ¬ (r : Int) < r by omega]
    refine ⟨_, _, rfl, by simp, _, _, _, rfl, .inr ⟨rfl, rfl, ?_⟩⟩
    simp only [go_sem, Nat.reduceEqDiff, Nat.reduceAdd, Nat.reduceMul, Nat.reduceLT, Nat.reduceLeDiff, Nat.mul_one, hout]
    simp

theorem smRows_eq (s k : List (List Int)) (n : Nat) : smRows s k n n = tbl n (fun c r => smoothV s k c r) := rfl

theorem s12 (h : SmT P L) {v w : AV} {s k : List (List Int)} (hv : IsS v s) (hw : IsS w k) {n m : Nat} (hn : s.length = n) (hn0 : 0 < n) (hn1 : n ≤ 16) (hs : sqChk n (-1000) 1000 s = 0) (hm : k.length = m) (hm1 : m ≤ 5) (hk : sqChk m (-100) 100 k = 0) :
    (outT (smRows s k n n) = true ∧ Ans P L 12 [v, w] (.tup [.nils, .bool false])) ∨ (outT (smRows s k n n) = false ∧ ∃ r, Ans P L 12 [v, w] (.tup [r, .bool true]) ∧ IsS (shut1 r) (smRows s k n n)) := by
  unfold Ans; rw [call_eq h.h12]
  have hd3 : (2 : Int) ≠ 0 := by decide
  have hq2 : (m : Int).tdiv 2 = (m / 2 : Nat) := by rw [Int.tdiv_eq_ediv_of_nonneg (by omega)]; rfl
  simp only [go_sem, Nat.reduceEqDiff, Nat.reduceAdd, Nat.reduceMul, Nat.reduceLT, Nat.reduceLeDiff, Nat.mul_one, c12, hv.len, hv.pu, hv.frz, hv.shut, hv.shut1, hv.res, hv.one, hv.cells, hw.len, hw.pu, hw.frz, hw.shut, hw.shut1, hw.res, hw.one, hw.cells, hm, bin_quo _ _ _ hd3, hq2, wrapN (n := m / 2) (by omega)]
  generalize hq : D P L (.loop [0, 1, 6, 7, 8] c12_3) _ = q'
  obtain ⟨ex, st, rfl, tm, hp, ct, rfl, hres⟩ := of_key hq (s12_3 h hv hw hn hn0 hn1 hs hm hm1 hk n) ⟨0, by
    simp only [smRows, List.range_zero, List.map_nil]
    simp only [go_sem, Nat.reduceEqDiff, Nat.reduceAdd, Nat.reduceMul, Nat.reduceLT, Nat.reduceLeDiff, Nat.mul_one, compact0, g2a_n, g2a_c, g2b_n, g2b_nc, g2b_cc, g2h_nn, g2h_cn, g2h_nc, g2h_cc, g2c_nn, g2c_cn, g2c_nc, g2c_cc, refs_pure hv.pu, ren_pure _ hv.pu, refs_pure hw.pu, ren_pure _ hw.pu] <;> rfl, by omega, by simp [smRows, outT]⟩
  rcases hres with ⟨rfl, g4, g5, hbad⟩ | ⟨rfl, rfl, g7, hok⟩
  · left
    refine ⟨hbad, ?_⟩
    simp only [go_sem, Nat.reduceEqDiff, Nat.reduceAdd, Nat.reduceMul, Nat.reduceLT, Nat.reduceLeDiff, Nat.mul_one, g4, g5]
  · right
    refine ⟨hok, .fsl false 1 n ((smRows s k n n).map vrow), ?_, ?_⟩
    · have hlen : ((smRows s k n n).map vrow).length = n := by simp [smRows_len]
      generalize (smRows s k n n).map vrow = o at hlen g7
      cases o with
      | nil => simp at hlen; omega
      | cons a o =>
        simp only [g2a_n, g2a_c, g2b_n, g2b_nc, g2b_cc, g2h_nn, g2h_cn, g2h_nc, g2h_cc, g2c_nn, g2c_cn, g2c_nc, g2c_cc] at g7
        simp only [List.length_cons] at hlen
        simp only [go_sem, Nat.reduceEqDiff, Nat.reduceAdd, Nat.reduceMul, Nat.reduceLT, Nat.reduceLeDiff, Nat.mul_one, compact0, g7, g2a_n, g2a_c, g2b_n, g2b_nc, g2b_cc, g2h_nn, g2h_cn, g2h_nc, g2h_cc, g2c_nn, g2c_cn, g2c_nc, g2c_cc, hlen]
        exact result_tup_b (hget_hit _ _ _) (by simpa using hlen) (by decide)
    · have := rows_S false (smRows s k n n)
      rw [smRows_len] at this
      exact this
end
end VE
end
