import Derived.Test.YteioemjpepbdgaaGreatDoorSkyA
import Derived.Test.YteioemjpepbdgaaGreatDoorLaws
set_option linter.all false
section
set_option maxRecDepth 100000
namespace VE
open Go (IntKind)
section
variable {P : Prog} {L : Lib}
end
end VE
end
section
set_option maxRecDepth 100000
namespace VE
open Go (IntKind)
section
variable {P : Prog} {L : Lib}
theorem asNat_int {k : IntKind} {n : Int} (h : 0 ≤ n) : asNat (.int k n) = some n.toNat := by
  cases n with
  | ofNat n => rfl
  | negSucc n => exact absurd h (by simp)
theorem cell_get {s : List (List Int)} {n : Nat} (hn : s.length = n) (h0 : 0 < n) (hr : ∀ i (hi : i < s.length), s[i].length = n) (c r : Int) :
    ∃ (h1 : (r % n).toNat < s.length) (h2 : (c % n).toNat < (s[(r % n).toNat]'h1).length), cellI s c r = (s[(r % n).toNat]'h1)[(c % n).toNat]'h2 := by
  have a1 := Int.emod_nonneg r (show (n : Int) ≠ 0 by omega)
  have a2 := Int.emod_lt_of_pos r (show (0 : Int) < n by omega)
  have b1 := Int.emod_nonneg c (show (n : Int) ≠ 0 by omega)
  have b2 := Int.emod_lt_of_pos c (show (0 : Int) < n by omega)
  have h1 : (r % n).toNat < s.length := by omega
  have h2 : (c % n).toNat < (s[(r % n).toNat]'h1).length := by rw [hr]; omega
  refine ⟨h1, h2, ?_⟩
  unfold cellI
  rw [hn]
  simp only [List.getD_eq_getElem?_getD, List.getElem?_eq_getElem h1, List.getElem?_eq_getElem h2, Option.getD_some]
theorem s97 (h : Has P L 97 c97) (h134 : Has P L 134 c134) {v : AV} {s : List (List Int)} (hv : IsS v s) {n : Nat} (hn : s.length = n) (h0 : 0 < n) (hl : n ≤ 1000000) (hr : ∀ i (hi : i < s.length), s[i].length = n) (c r : Int) :
    Ans P L 97 [v, I64 c, I64 r] (I64 (cellI s c r)) := by
  obtain ⟨h1, h2, h3⟩ := cell_get hn h0 hr c r
  have a1 := Int.emod_nonneg r (show (n : Int) ≠ 0 by omega)
  have b1 := Int.emod_nonneg c (show (n : Int) ≠ 0 by omega)
  obtain ⟨q, rest, hq1, hq2⟩ := hv.ixa h1
  have e1 := s134 h134 (n := r) (m := (s.length : Int)) (by omega) (by omega)
  have e2 := s134 h134 (n := c) (m := (s.length : Int)) (by omega) (by omega)
  rw [hn] at e1 e2
  unfold Ans at e1 e2 ⊢; rw [call_eq h]
  simp only [go_sem, Nat.reduceEqDiff, c97, hv.len, hn, e1, e2, asNat_int a1, asNat_int b1, hq2, hq1.ixa h2, h3]
theorem s43 (h : Has P L 43 c43) {v : AV} {s : List (List Int)} (hv : IsS v s) {n : Nat} (hn : s.length = n) (h0 : 0 < n) (hl : n ≤ 1000000) (hr : ∀ i (hi : i < s.length), s[i].length = n) (c r : Int) :
    Ans P L 43 [v, I64 c, I64 r] (I64 (cellI s c r)) := by
  obtain ⟨h1, h2, h3⟩ := cell_get hn h0 hr c r
  have a1 := Int.emod_nonneg r (show (n : Int) ≠ 0 by omega)
  have b1 := Int.emod_nonneg c (show (n : Int) ≠ 0 by omega)
  obtain ⟨q, rest, hq1, hq2⟩ := hv.ixa h1
  have hd : (n : Int) ≠ 0 := by omega
  have w : ∀ x : Int, IntKind.wrap .i64 (x.tmod n + n) = x.tmod n + n := fun x => by
    have h2 : x.tmod n < n := Int.tmod_lt_of_pos x (by omega)
    have h3 : -(n : Int) < x.tmod n := Int.lt_tmod_of_pos x (by omega)
    exact wrap64 (by omega) (by omega)
  unfold Ans; rw [call_eq h]
  simp only [go_sem, Nat.reduceEqDiff, c43, hv.len, hn, bin_rem _ _ _ hd, w, tmod_up (show (0 : Int) < n by omega), asNat_int a1, asNat_int b1, hq2, hq1.ixa h2, h3]
def vrow (l : List Int) : AV := .vsl false l.length (l.map I64)
theorem vrow_I (l : List Int) : IsI (vrow l) l := isI_vsl false l
theorem rows_I (s : List (List Int)) : All2 IsI (s.map vrow) s := by
  induction s with
  | nil => trivial
  | cons a r ih => exact ⟨vrow_I a, ih⟩
theorem rows_S (e : Bool) (s : List (List Int)) : IsS (.vsl e s.length (s.map vrow)) s := by
  refine ⟨s.map vrow, ?_, rows_I s⟩
  have := isL_vsl e (s.map vrow)
  rwa [List.length_map] at this
def g2a : List AV → AV
  | [] => .nils
  | a :: r => .osl 0 0 (r.length + 1)
def g2b : List AV → List AV → AV
  | _, [] => .nils
  | [], b :: q => .osl 0 0 (q.length + 1)
  | _ :: _, b :: q => .osl 1 0 (q.length + 1)
def g2h : List AV → List AV → Hp
  | [], [] => []
  | a :: r, [] => [(0, .cells true true false 1 (a :: r))]
  | [], b :: q => [(0, .cells true true false 1 (b :: q))]
  | a :: r, b :: q => [(1, .cells true true false 1 (b :: q)), (0, .cells true true false 1 (a :: r))]
def g2c : List AV → List AV → Nat
  | [], [] => 0
  | _ :: _, [] => 1
  | [], _ :: _ => 1
  | _ :: _, _ :: _ => 2
theorem g2a_n : g2a [] = .nils := rfl
theorem g2a_c (a : AV) (r : List AV) : g2a (a :: r) = .osl 0 0 (r.length + 1) := rfl
theorem g2b_n (o : List AV) : g2b o [] = .nils := by cases o <;> rfl
theorem g2b_nc (b : AV) (q : List AV) : g2b [] (b :: q) = .osl 0 0 (q.length + 1) := rfl
theorem g2b_cc (a : AV) (r : List AV) (b : AV) (q : List AV) : g2b (a :: r) (b :: q) = .osl 1 0 (q.length + 1) := rfl
theorem g2h_nn : g2h [] [] = [] := rfl
theorem g2h_cn (a : AV) (r : List AV) : g2h (a :: r) [] = [(0, .cells true true false 1 (a :: r))] := rfl
theorem g2h_nc (b : AV) (q : List AV) : g2h [] (b :: q) = [(0, .cells true true false 1 (b :: q))] := rfl
theorem g2h_cc (a : AV) (r : List AV) (b : AV) (q : List AV) : g2h (a :: r) (b :: q) = [(1, .cells true true false 1 (b :: q)), (0, .cells true true false 1 (a :: r))] := rfl
theorem g2c_nn : g2c [] [] = 0 := rfl
theorem g2c_cn (a : AV) (r : List AV) : g2c (a :: r) [] = 1 := rfl
theorem g2c_nc (b : AV) (q : List AV) : g2c [] (b :: q) = 1 := rfl
theorem g2c_cc (a : AV) (r : List AV) (b : AV) (q : List AV) : g2c (a :: r) (b :: q) = 2 := rfl
end
end VE
end
section
set_option maxRecDepth 100000
namespace VE
open Go (IntKind)
section
variable {P : Prog} {L : Lib}
theorem off_ptr (k id o : Nat) : offOp k (.ptr id o) = some (.ptr id (o + k)) := rfl
theorem drop1 {α : Type} (a : α) (l : List α) : List.drop 1 (a :: l) = l := rfl
theorem drop2 {α : Type} (a b : α) (l : List α) : List.drop 2 (a :: b :: l) = l := rfl
theorem drop3 {α : Type} (a b c : α) (l : List α) : List.drop 3 (a :: b :: c :: l) = l := rfl
theorem mul_bound {a b x y : Int} (h1 : -a ≤ x ∧ x ≤ a) (h2 : -b ≤ y ∧ y ≤ b) : -(a * b) ≤ x * y ∧ x * y ≤ a * b := by
  have hb : 0 ≤ b := by omega
  have ha : 0 ≤ a := by omega
  have p1 := Int.mul_nonneg (show 0 ≤ a - x by omega) (show 0 ≤ b - y by omega)
  have p2 := Int.mul_nonneg (show 0 ≤ a + x by omega) (show 0 ≤ b + y by omega)
  have p3 := Int.mul_nonneg (show 0 ≤ a - x by omega) (show 0 ≤ b + y by omega)
  have p4 := Int.mul_nonneg (show 0 ≤ a + x by omega) (show 0 ≤ b - y by omega)
  simp only [Int.sub_mul, Int.mul_sub, Int.add_mul, Int.mul_add] at p1 p2 p3 p4
  have e : a * y = y * a := Int.mul_comm _ _
  omega
theorem kv_get {k : List (List Int)} {j i : Nat} (hj : j < k.length) (hi : i < k[j].length) : k[j][i] = kv k j i := by
  unfold kv
  simp only [List.getD_eq_getElem?_getD, List.getElem?_eq_getElem hj, Option.getD_some, List.getElem?_eq_getElem hi]
end
end VE
end
