import Derived.Test.YtljdkbioipgoeaaGreatDoorSkyA
import Derived.Test.YtljdkbioipgoeaaGreatDoorLaws
set_option linter.all false
section
/- Chapter 7, integers: cells; the reference's drawing and smoothing. -/
set_option maxRecDepth 100000
namespace VE
open Go (IntKind)
section
variable {P : Prog} {L : Lib}

theorem asNat_int {k : IntKind} {n : Int} (h : 0 ≤ n) : asNat (.int k n) = some n.toNat := by
  cases n with
  | ofNat n => rfl
  | negSucc n => exact absurd h (by simp)

/-- A cell of a square. -/
theorem cell_get {s : List (List Int)} {n : Nat} (hn : s.length = n) (h0 : 0 < n) (hr : ∀ i (hi : i < s.length), s[i].length = n) (c r : Int) :
    ∃ (h1 : (r % n).toNat < s.length) (h2 : (c % n).toNat < (s[(r % n).toNat]'h1).length), cellI s c r = (s[(r % n).toNat]'h1)[(c % n).toNat]'h2 := by
  have a1 := Int.emod_nonneg r (show (n : Int) ≠ 0 by omega)
  have a2 := Int.emod_lt_of_pos r (show (0 : Int) < n by omega)
  have b1 := Int.emod_nonneg c (show (n : Int) ≠ 0 by omega)
  have b2 := Int.emod_lt_of_pos c (show (0 : Int) < n by omega)
  have h1 : (r % n).toNat < s.length := by omega
  have h2 : (c % n).toNat < (s[(r % n).toNat]'h1).length := by rw [hr]; omega
  refine ⟨h1, h2, ?_⟩
  unfold cellI
  rw [hn]
  simp only [List.getD_eq_getElem?_getD, List.getElem?_eq_getElem h1, List.getElem?_eq_getElem h2, Option.getD_some]

theorem s97 (h : Has P L 97 c97) (h134 : Has P L 134 c134) {v : AV} {s : List (List Int)} (hv : IsS v s) {n : Nat} (hn : s.length = n) (h0 : 0 < n) (hl : n ≤ 1000000) (hr : ∀ i (hi : i < s.length), s[i].length = n) (c r : Int) :
    Ans P L 97 [v, I64 c, I64 r] (I64 (cellI s c r)) := by
  obtain ⟨h1, h2, h3⟩ := cell_get hn h0 hr c r
  have a1 := Int.emod_nonneg r (show (n : Int) ≠ 0 by omega)
  have b1 := Int.emod_nonneg c (show (n : Int) ≠ 0 by omega)
  obtain ⟨q, rest, hq1, hq2⟩ := hv.ixa h1
  have e1 := s134 h134 (n := r) (m := (s.length : Int)) (by omega) (by omega)
  have e2 := s134 h134 (n := c) (m := (s.length : Int)) (by omega) (by omega)
  rw [hn] at e1 e2
  unfold Ans at e1 e2 ⊢; rw [call_eq h]
  simp only [go_sem, Nat.reduceEqDiff, Nat.reduceAdd, Nat.reduceMul, Nat.reduceLT, Nat.reduceLeDiff, Nat.mul_one, c97, hv.len, hv.pu, hv.frz, hv.shut, hv.shut1, hv.res, hv.one, hv.cells, hn, e1, e2, asNat_int a1, asNat_int b1, hq2, hq1.ixa h2, h3]

theorem s43 (h : Has P L 43 c43) {v : AV} {s : List (List Int)} (hv : IsS v s) {n : Nat} (hn : s.length = n) (h0 : 0 < n) (hl : n ≤ 1000000) (hr : ∀ i (hi : i < s.length), s[i].length = n) (c r : Int) :
    Ans P L 43 [v, I64 c, I64 r] (I64 (cellI s c r)) := by
  obtain ⟨h1, h2, h3⟩ := cell_get hn h0 hr c r
  have a1 := Int.emod_nonneg r (show (n : Int) ≠ 0 by omega)
  have b1 := Int.emod_nonneg c (show (n : Int) ≠ 0 by omega)
  obtain ⟨q, rest, hq1, hq2⟩ := hv.ixa h1
  have hd : (n : Int) ≠ 0 := by omega
  have w : ∀ x : Int, IntKind.wrap .i64 (x.tmod n + n) = x.tmod n + n := fun x => by
    have h2 : x.tmod n < n := Int.tmod_lt_of_pos x (by omega)
    have h3 : -(n : Int) < x.tmod n := Int.lt_tmod_of_pos x (by omega)
    exact wrap64 (by omega) (by omega)
  unfold Ans; rw [call_eq h]
  simp only [go_sem, Nat.reduceEqDiff, Nat.reduceAdd, Nat.reduceMul, Nat.reduceLT, Nat.reduceLeDiff, Nat.mul_one, c43, hv.len, hv.pu, hv.frz, hv.shut, hv.shut1, hv.res, hv.one, hv.cells, hn, bin_rem _ _ _ hd, w, tmod_up (show (0 : Int) < n by omega), asNat_int a1, asNat_int b1, hq2, hq1.ixa h2, h3]

/-- A row, frozen. -/
def vrow (l : List Int) : AV := .vsl false l.length (l.map I64)
theorem vrow_I (l : List Int) : IsI (vrow l) l := isI_vsl false l
theorem rows_I (s : List (List Int)) : All2 IsI (s.map vrow) s := by
  induction s with
  | nil => trivial
  | cons a r ih => exact ⟨vrow_I a, ih⟩
theorem rows_S (e : Bool) (s : List (List Int)) : IsS (.vsl e s.length (s.map vrow)) s := by
  refine ⟨s.map vrow, ?_, rows_I s⟩
  have := isL_vsl e (s.map vrow)
  rwa [List.length_map] at this

/-- Two growing slices: their values, the memory, its count. -/
def g2a : List AV → AV
  | [] => .nils
  | a :: r => .osl 0 0 (r.length + 1)
def g2b : List AV → List AV → AV
  | _, [] => .nils
  | [], b :: q => .osl 0 0 (q.length + 1)
  | _ :: _, b :: q => .osl 1 0 (q.length + 1)
def g2h : List AV → List AV → Hp
  | [], [] => []
  | a :: r, [] => [(0, .cells true true false 1 (a :: r))]
  | [], b :: q => [(0, .cells true true false 1 (b :: q))]
  | a :: r, b :: q => [(1, .cells true true false 1 (b :: q)), (0, .cells true true false 1 (a :: r))]
def g2c : List AV → List AV → Nat
  | [], [] => 0
  | _ :: _, [] => 1
  | [], _ :: _ => 1
  | _ :: _, _ :: _ => 2
theorem g2a_n : g2a [] = .nils := rfl
theorem g2a_c (a : AV) (r : List AV) : g2a (a :: r) = .osl 0 0 (r.length + 1) := rfl
theorem g2b_n (o : List AV) : g2b o [] = .nils := by cases o <;> rfl
theorem g2b_nc (b : AV) (q : List AV) : g2b [] (b :: q) = .osl 0 0 (q.length + 1) := rfl
theorem g2b_cc (a : AV) (r : List AV) (b : AV) (q : List AV) : g2b (a :: r) (b :: q) = .osl 1 0 (q.length + 1) := rfl
theorem g2h_nn : g2h [] [] = [] := rfl
theorem g2h_cn (a : AV) (r : List AV) : g2h (a :: r) [] = [(0, .cells true true false 1 (a :: r))] := rfl
theorem g2h_nc (b : AV) (q : List AV) : g2h [] (b :: q) = [(0, .cells true true false 1 (b :: q))] := rfl
theorem g2h_cc (a : AV) (r : List AV) (b : AV) (q : List AV) : g2h (a :: r) (b :: q) = [(1, .cells true true false 1 (b :: q)), (0, .cells true true false 1 (a :: r))] := rfl
theorem g2c_nn : g2c [] [] = 0 := rfl
theorem g2c_cn (a : AV) (r : List AV) : g2c (a :: r) [] = 1 := rfl
theorem g2c_nc (b : AV) (q : List AV) : g2c [] (b :: q) = 1 := rfl
theorem g2c_cc (a : AV) (r : List AV) (b : AV) (q : List AV) : g2c (a :: r) (b :: q) = 2 := rfl
end
end VE
end
section
/- Smoothing: sums, bounds, rows; small rules. -/
set_option maxRecDepth 100000
namespace VE
open Go (IntKind)
section
variable {P : Prog} {L : Lib}

theorem off_ptr (k id o : Nat) : offOp k (.ptr id o) = some (.ptr id (o + k)) := rfl
theorem drop1 {α : Type} (a : α) (l : List α) : List.drop 1 (a :: l) = l := rfl
theorem drop2 {α : Type} (a b : α) (l : List α) : List.drop 2 (a :: b :: l) = l := rfl
theorem drop3 {α : Type} (a b c : α) (l : List α) : List.drop 3 (a :: b :: c :: l) = l := rfl
theorem iterX_succ (x : Int) (k : Nat) : iterX x (k + 1) = nextX (iterX x k) := rfl

/-- A kernel's cell, times a screen's. -/
def kterm (s k : List (List Int)) (c r : Nat) (j i : Nat) : Int := kv k j i * cellI s ((c : Int) + i - (k.length / 2 : Nat)) ((r : Int) + j - (k.length / 2 : Nat))

theorem smoothV_eq (s k : List (List Int)) (c r : Nat) : smoothV s k c r = psum (fun j => psum (kterm s k c r j) k.length) k.length := rfl

theorem mul_bound {a b x y : Int} (h1 : -a ≤ x ∧ x ≤ a) (h2 : -b ≤ y ∧ y ≤ b) : -(a * b) ≤ x * y ∧ x * y ≤ a * b := by
  have hb : 0 ≤ b := by omega
  have ha : 0 ≤ a := by omega
  have p1 := Int.mul_nonneg (show 0 ≤ a - x by omega) (show 0 ≤ b - y by omega)
  have p2 := Int.mul_nonneg (show 0 ≤ a + x by omega) (show 0 ≤ b + y by omega)
  have p3 := Int.mul_nonneg (show 0 ≤ a - x by omega) (show 0 ≤ b + y by omega)
  have p4 := Int.mul_nonneg (show 0 ≤ a + x by omega) (show 0 ≤ b - y by omega)
  simp only [Int.sub_mul, Int.mul_sub, Int.add_mul, Int.mul_add] at p1 p2 p3 p4
  have e : a * y = y * a := Int.mul_comm _ _
  omega

theorem kterm_bound {s k : List (List Int)} {n m : Nat} (hs : sqChk n (-1000) 1000 s = 0) (hk : sqChk m (-100) 100 k = 0) (c r j i : Nat) : -100000 ≤ kterm s k c r j i ∧ kterm s k c r j i ≤ 100000 :=
  mul_bound (kv_bound hk (by decide) j i) (cellI_bound hs (by decide) _ _)

theorem psum2_bound {s k : List (List Int)} {n m : Nat} (hs : sqChk n (-1000) 1000 s = 0) (hk : sqChk m (-100) 100 k = 0) (c r j : Nat) (i : Nat) : -(100000 * i) ≤ psum (kterm s k c r j) i ∧ psum (kterm s k c r j) i ≤ 100000 * i :=
  psum_bound (fun i => kterm_bound hs hk c r j i) i

theorem psum_bound' {f : Nat → Int} {b : Int} (h : ∀ k, -b ≤ f k ∧ f k ≤ b) (n : Nat) : -(b * n) ≤ psum f n ∧ psum f n ≤ b * n := psum_bound h n

theorem kv_get {k : List (List Int)} {j i : Nat} (hj : j < k.length) (hi : i < k[j].length) : k[j][i] = kv k j i := by
  unfold kv
  simp only [List.getD_eq_getElem?_getD, List.getElem?_eq_getElem hj, Option.getD_some, List.getElem?_eq_getElem hi]

/-- The first values of a smoothed row. -/
def smRow (s k : List (List Int)) (r : Nat) (c : Nat) : List Int := (List.range c).map fun c => smoothV s k c r
theorem smRow_succ (s k : List (List Int)) (r c : Nat) : smRow s k r (c + 1) = smRow s k r c ++ [smoothV s k c r] := by
  simp only [smRow, List.range_succ, List.map_append, List.map_cons, List.map_nil]
theorem smRow_len (s k : List (List Int)) (r c : Nat) : (smRow s k r c).length = c := by simp [smRow]

theorem outI_append {lo hi : Int} : ∀ {l m : List Int}, outI lo hi (l ++ m) = (outI lo hi l || outI lo hi m)
  | [], m => by simp [outI]
  | a :: l, m => by
    simp only [List.cons_append, outI]
    split
    · simp
    · exact outI_append

theorem smRow_out {s k : List (List Int)} {r c n : Nat} (h : outI (-1000) 1000 (smRow s k r c) = true) (hc : c ≤ n) : outI (-1000) 1000 (smRow s k r n) = true := by
  induction n with
  | zero => have : c = 0 := by omega
            subst this; exact h
  | succ n ih =>
    by_cases e : c = n + 1
    · subst e; exact h
    · rw [smRow_succ, outI_append, ih (by omega)]; rfl

/-- The first rows of a smoothed screen. -/
def smRows (s k : List (List Int)) (n : Nat) (r : Nat) : List (List Int) := (List.range r).map fun r => smRow s k r n
theorem smRows_succ (s k : List (List Int)) (n r : Nat) : smRows s k n (r + 1) = smRows s k n r ++ [smRow s k r n] := by
  simp only [smRows, List.range_succ, List.map_append, List.map_cons, List.map_nil]
theorem smRows_len (s k : List (List Int)) (n r : Nat) : (smRows s k n r).length = r := by simp [smRows]

/-- Is a value too large? -/
def outT : List (List Int) → Bool
  | [] => false
  | l :: r => outI (-1000) 1000 l || outT r
theorem outT_append : ∀ {a b : List (List Int)}, outT (a ++ b) = (outT a || outT b)
  | [], b => by simp [outT]
  | x :: a, b => by simp [outT, outT_append (a := a), Bool.or_assoc]
theorem smRows_out {s k : List (List Int)} {r n m : Nat} (h : outT (smRows s k n r) = true) (hr : r ≤ m) : outT (smRows s k n m) = true := by
  induction m with
  | zero => have : r = 0 := by omega
            subst this; exact h
  | succ m ih =>
    by_cases e : r = m + 1
    · subst e; exact h
    · rw [smRows_succ, outT_append, ih (by omega)]; rfl

theorem smRows_eq (s k : List (List Int)) (n : Nat) : smRows s k n n = tbl n (fun c r => smoothV s k c r) := rfl

end
end VE
end
