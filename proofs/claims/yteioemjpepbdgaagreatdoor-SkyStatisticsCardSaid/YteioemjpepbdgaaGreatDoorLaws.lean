set_option linter.all false
section
namespace VE
def firstI : List Int → Int
  | [] => 0
  | a :: r => if a = 0 then firstI r else a
theorem firstI_drop {l : List Int} {i : Nat} (h : i < l.length) : firstI (l.drop i) = if l[i] = 0 then firstI (l.drop (i + 1)) else l[i] := by
  rw [List.drop_eq_getElem_cons h, firstI]
def outI (lo hi : Int) : List Int → Bool
  | [] => false
  | a :: r => if a < lo ∨ hi < a then true else outI lo hi r
theorem outI_drop {lo hi : Int} {l : List Int} {i : Nat} (h : i < l.length) : outI lo hi (l.drop i) = if l[i] < lo ∨ hi < l[i] then true else outI lo hi (l.drop (i + 1)) := by
  rw [List.drop_eq_getElem_cons h, outI]
def sqChk (n : Nat) (lo hi : Int) : List (List Int) → Int
  | [] => 0
  | r :: s => if r.length ≠ n then 2 else if outI lo hi r = true then 3 else sqChk n lo hi s
theorem sqChk_drop {n : Nat} {lo hi : Int} {s : List (List Int)} {i : Nat} (h : i < s.length) :
    sqChk n lo hi (s.drop i) = if s[i].length ≠ n then 2 else if outI lo hi s[i] = true then 3 else sqChk n lo hi (s.drop (i + 1)) := by
  rw [List.drop_eq_getElem_cons h, sqChk]
def chkScreen (s : List (List Int)) : Int := if s.length = 0 then 12 else if 16 < s.length then 5 else sqChk s.length (-1000) 1000 s
def rowsShort : List (List Int) → Bool
  | [] => true
  | r :: s => if 18 < r.length then false else rowsShort s
theorem rowsShort_drop {s : List (List Int)} {i : Nat} (h : i < s.length) : rowsShort (s.drop i) = if 18 < s[i].length then false else rowsShort (s.drop (i + 1)) := by
  rw [List.drop_eq_getElem_cons h, rowsShort]
def shortS (n : Nat) (s : List (List Int)) : Bool := if n < s.length ∧ s.length ≤ 16 ∨ 18 < s.length then false else rowsShort s
theorem outI_get {lo hi : Int} {l : List Int} (h : outI lo hi l = false) : ∀ i (hi' : i < l.length), lo ≤ l[i] ∧ l[i] ≤ hi := by
  induction l with
  | nil => intro i hi'; exact absurd hi' (Nat.not_lt_zero _)
  | cons a r ih =>
    simp only [outI] at h
    split at h
    · cases h
    · rename_i hc
      intro i hi'
      cases i with
      | zero => simp only [List.getElem_cons_zero]; omega
      | succ i => simp only [List.getElem_cons_succ]; exact ih h i (by simpa using hi')
theorem outI_take {lo hi : Int} {l : List Int} (h : outI lo hi l = false) : ∀ i, outI lo hi (l.take i) = false := by
  induction l with
  | nil => intro i; simp [outI]
  | cons a r ih =>
    intro i
    simp only [outI] at h
    split at h
    · cases h
    · rename_i hc
      cases i with
      | zero => simp [outI]
      | succ i => simp only [List.take_succ_cons, outI, hc, if_false, ih h i]
def cellI (s : List (List Int)) (c r : Int) : Int := (s.getD (r % s.length).toNat []).getD (c % s.length).toNat 0
theorem tmod_up {n m : Int} (h : 0 < m) : (n.tmod m + m).tmod m = n % m := by
  have e : n.tmod m = if 0 ≤ n ∨ m ∣ n then n % m else n % m - m := by
    rw [Int.tmod_eq_emod]
    split <;> simp_all <;> omega
  have h1 := Int.emod_nonneg n (by omega : m ≠ 0)
  have h2 := Int.emod_lt_of_pos n h
  rw [e]
  split
  · rw [Int.tmod_eq_emod_of_nonneg (by omega), Int.add_emod_right, Int.emod_emod]
  · rw [show n % m - m + m = n % m by omega, Int.tmod_eq_emod_of_nonneg h1, Int.emod_emod]
theorem sqChk_get {n : Nat} {lo hi : Int} {s : List (List Int)} (h : sqChk n lo hi s = 0) : ∀ i (hi' : i < s.length), s[i].length = n ∧ outI lo hi s[i] = false := by
  induction s with
  | nil => intro i hi'; exact absurd hi' (Nat.not_lt_zero _)
  | cons r s ih =>
    simp only [sqChk] at h
    split at h
    · cases h
    · rename_i h1
      split at h
      · cases h
      · rename_i h2
        intro i hi'
        cases i with
        | zero => simp only [List.getElem_cons_zero]; exact ⟨by omega, by simpa using h2⟩
        | succ i => simp only [List.getElem_cons_succ]; exact ih h i (by simpa using hi')
end VE
end
section
namespace VE
def tbl (n : Nat) (f : Nat → Nat → Int) : List (List Int) := (List.range n).map fun r => (List.range n).map fun c => f c r
theorem tbl_len (n : Nat) (f : Nat → Nat → Int) : (tbl n f).length = n := by simp [tbl]
theorem tbl_row {n : Nat} {f : Nat → Nat → Int} {r : Nat} (h : r < n) : (tbl n f)[r]'(by rw [tbl_len]; exact h) = (List.range n).map fun c => f c r := by simp [tbl]
def psum (f : Nat → Int) : Nat → Int
  | 0 => 0
  | n + 1 => psum f n + f n
theorem psum_bound {f : Nat → Int} {b : Int} (h : ∀ k, -b ≤ f k ∧ f k ≤ b) : ∀ n : Nat, -(b * n) ≤ psum f n ∧ psum f n ≤ b * n
  | 0 => by simp [psum]
  | n + 1 => by
    have h1 := psum_bound h n
    have h2 := h n
    have e : b * ((n + 1 : Nat) : Int) = b * n + b := by rw [Int.natCast_add, Int.mul_add]; simp
    simp only [psum, e]
    omega
def kv (k : List (List Int)) (j i : Nat) : Int := (k.getD j []).getD i 0
theorem getD_bound {lo hi : Int} {l : List Int} (h : outI lo hi l = false) (h0 : lo ≤ 0 ∧ 0 ≤ hi) (i : Nat) : lo ≤ l.getD i 0 ∧ l.getD i 0 ≤ hi := by
  by_cases hl : i < l.length
  · have := outI_get h i hl
    simp only [List.getD_eq_getElem?_getD, List.getElem?_eq_getElem hl, Option.getD_some]
    exact this
  · rw [List.getD_eq_getElem?_getD, List.getElem?_eq_none (show l.length ≤ i by omega)]
    exact h0
theorem kv_bound {n : Nat} {lo hi : Int} {k : List (List Int)} (h : sqChk n lo hi k = 0) (h0 : lo ≤ 0 ∧ 0 ≤ hi) (j i : Nat) : lo ≤ kv k j i ∧ kv k j i ≤ hi := by
  unfold kv
  by_cases hl : j < k.length
  · have := sqChk_get h j hl
    simp only [List.getD_eq_getElem?_getD, List.getElem?_eq_getElem hl, Option.getD_some]
    exact getD_bound this.2 h0 i
  · have e : k.getD j [] = [] := by rw [List.getD_eq_getElem?_getD, List.getElem?_eq_none (show k.length ≤ j by omega)]; rfl
    rw [e]
    simpa using h0
theorem cellI_bound {n : Nat} {lo hi : Int} {s : List (List Int)} (h : sqChk n lo hi s = 0) (h0 : lo ≤ 0 ∧ 0 ≤ hi) (c r : Int) : lo ≤ cellI s c r ∧ cellI s c r ≤ hi := by
  unfold cellI
  by_cases hl : (r % s.length).toNat < s.length
  · have := sqChk_get h _ hl
    simp only [List.getD_eq_getElem?_getD, List.getElem?_eq_getElem hl, Option.getD_some]
    exact getD_bound this.2 h0 _
  · have e : s.getD (r % s.length).toNat [] = [] := by rw [List.getD_eq_getElem?_getD, List.getElem?_eq_none (show s.length ≤ (r % s.length).toNat by omega)]; rfl
    rw [e]
    simpa using h0
end VE
end
