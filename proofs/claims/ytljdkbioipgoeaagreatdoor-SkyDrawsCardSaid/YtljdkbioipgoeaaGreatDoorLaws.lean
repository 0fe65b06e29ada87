set_option linter.all false
section
/- Plain laws for screens: checks, cells, sums. No program in sight. -/
namespace VE

/-- The first that is not 0. -/
def firstI : List Int → Int
  | [] => 0
  | a :: r => if a = 0 then firstI r else a

theorem firstI_drop {l : List Int} {i : Nat} (h : i < l.length) : firstI (l.drop i) = if l[i] = 0 then firstI (l.drop (i + 1)) else l[i] := by
  rw [List.drop_eq_getElem_cons h, firstI]

/-- Is some element outside? -/
def outI (lo hi : Int) : List Int → Bool
  | [] => false
  | a :: r => if a < lo ∨ hi < a then true else outI lo hi r

theorem outI_drop {lo hi : Int} {l : List Int} {i : Nat} (h : i < l.length) : outI lo hi (l.drop i) = if l[i] < lo ∨ hi < l[i] then true else outI lo hi (l.drop (i + 1)) := by
  rw [List.drop_eq_getElem_cons h, outI]

/-- The error of a square. -/
def sqChk (n : Nat) (lo hi : Int) : List (List Int) → Int
  | [] => 0
  | r :: s => if r.length ≠ n then 2 else if outI lo hi r = true then 3 else sqChk n lo hi s

theorem sqChk_drop {n : Nat} {lo hi : Int} {s : List (List Int)} {i : Nat} (h : i < s.length) :
    sqChk n lo hi (s.drop i) = if s[i].length ≠ n then 2 else if outI lo hi s[i] = true then 3 else sqChk n lo hi (s.drop (i + 1)) := by
  rw [List.drop_eq_getElem_cons h, sqChk]

def chkScreen (s : List (List Int)) : Int := if s.length = 0 then 12 else if 16 < s.length then 5 else sqChk s.length (-1000) 1000 s
def chkKernel (k : List (List Int)) : Int := if k.length = 0 then 12 else if 5 < k.length then 5 else if k.length % 2 = 0 then 2 else sqChk k.length (-100) 100 k

/-- All rows have at most 18. -/
def rowsShort : List (List Int) → Bool
  | [] => true
  | r :: s => if 18 < r.length then false else rowsShort s

theorem rowsShort_drop {s : List (List Int)} {i : Nat} (h : i < s.length) : rowsShort (s.drop i) = if 18 < s[i].length then false else rowsShort (s.drop (i + 1)) := by
  rw [List.drop_eq_getElem_cons h, rowsShort]

def shortS (n : Nat) (s : List (List Int)) : Bool := if n < s.length ∧ s.length ≤ 16 ∨ 18 < s.length then false else rowsShort s

def sumI : List Int → Int
  | [] => 0
  | a :: r => a + sumI r

theorem sumI_take {l : List Int} {i : Nat} (h : i < l.length) : sumI (l.take (i + 1)) = sumI (l.take i) + l[i] := by
  induction l generalizing i with
  | nil => exact absurd h (Nat.not_lt_zero _)
  | cons a r ih =>
    cases i with
    | zero => simp [sumI]
    | succ i =>
      have h' : i < r.length := by simpa using h
      simp only [List.take_succ_cons, sumI, List.getElem_cons_succ, ih h']
      omega

theorem sumI_bound {l : List Int} (h : outI 0 1000 l = false) : 0 ≤ sumI l ∧ sumI l ≤ 1000 * l.length := by
  induction l with
  | nil => simp [sumI]
  | cons a r ih =>
    simp only [outI] at h
    split at h
    · cases h
    · rename_i hc
      have := ih h
      simp only [sumI, List.length_cons]
      omega

theorem outI_get {lo hi : Int} {l : List Int} (h : outI lo hi l = false) : ∀ i (hi' : i < l.length), lo ≤ l[i] ∧ l[i] ≤ hi := by
  induction l with
  | nil => intro i hi'; exact absurd hi' (Nat.not_lt_zero _)
  | cons a r ih =>
    simp only [outI] at h
    split at h
    · cases h
    · rename_i hc
      intro i hi'
      cases i with
      | zero => simp only [List.getElem_cons_zero]; omega
      | succ i => simp only [List.getElem_cons_succ]; exact ih h i (by simpa using hi')

theorem outI_take {lo hi : Int} {l : List Int} (h : outI lo hi l = false) : ∀ i, outI lo hi (l.take i) = false := by
  induction l with
  | nil => intro i; simp [outI]
  | cons a r ih =>
    intro i
    simp only [outI] at h
    split at h
    · cases h
    · rename_i hc
      cases i with
      | zero => simp [outI]
      | succ i => simp only [List.take_succ_cons, outI, hc, if_false, ih h i]

/-- The error of a drawing. -/
def chkDrawn (key side : Int) (w : List Int) : Int :=
  if key < 1 ∨ 2147483646 < key then 3 else if side < 1 ∨ 16 < side then 3 else if w.length = 0 then 12 else if 33 < w.length then 5 else if w.length % 2 = 0 then 2 else
  if outI 0 1000 w = true then 3 else if sumI w = 0 then 6 else 0

/-- Are two lists the same? -/
def eqZ : List Int → List Int → Bool
  | [], [] => true
  | a :: r, b :: s => if a = b then eqZ r s else false
  | _, _ => false

theorem eqZ_refl : ∀ l : List Int, eqZ l l = true
  | [] => rfl
  | a :: r => by simp only [eqZ, if_true, eqZ_refl r]

/-- A cell of a periodic screen. -/
def cellI (s : List (List Int)) (c r : Int) : Int := (s.getD (r % s.length).toNat []).getD (c % s.length).toNat 0

theorem tmod_up {n m : Int} (h : 0 < m) : (n.tmod m + m).tmod m = n % m := by
  have e : n.tmod m = if 0 ≤ n ∨ m ∣ n then n % m else n % m - m := by
    rw [Int.tmod_eq_emod]
    split <;> simp_all <;> omega
  have h1 := Int.emod_nonneg n (by omega : m ≠ 0)
  have h2 := Int.emod_lt_of_pos n h
  rw [e]
  split
  · rw [Int.tmod_eq_emod_of_nonneg (by omega), Int.add_emod_right, Int.emod_emod]
  · rw [show n % m - m + m = n % m by omega, Int.tmod_eq_emod_of_nonneg h1, Int.emod_emod]

/-- A square with values in bounds. -/
theorem sqChk_get {n : Nat} {lo hi : Int} {s : List (List Int)} (h : sqChk n lo hi s = 0) : ∀ i (hi' : i < s.length), s[i].length = n ∧ outI lo hi s[i] = false := by
  induction s with
  | nil => intro i hi'; exact absurd hi' (Nat.not_lt_zero _)
  | cons r s ih =>
    simp only [sqChk] at h
    split at h
    · cases h
    · rename_i h1
      split at h
      · cases h
      · rename_i h2
        intro i hi'
        cases i with
        | zero => simp only [List.getElem_cons_zero]; exact ⟨by omega, by simpa using h2⟩
        | succ i => simp only [List.getElem_cons_succ]; exact ih h i (by simpa using hi')
end VE
end
section
/- Plain laws for screens: what is drawn, what is smoothed. -/
namespace VE

/-- A table of n rows of n cells. -/
def tbl (n : Nat) (f : Nat → Nat → Int) : List (List Int) := (List.range n).map fun r => (List.range n).map fun c => f c r

theorem tbl_len (n : Nat) (f : Nat → Nat → Int) : (tbl n f).length = n := by simp [tbl]
theorem tbl_row {n : Nat} {f : Nat → Nat → Int} {r : Nat} (h : r < n) : (tbl n f)[r]'(by rw [tbl_len]; exact h) = (List.range n).map fun c => f c r := by simp [tbl]

def nextX (x : Int) : Int := (39373 * x) % 2147483647
def iterX (x : Int) : Nat → Int
  | 0 => x
  | k + 1 => nextX (iterX x k)

theorem nextX_bound (x : Int) : 0 ≤ nextX x ∧ nextX x ≤ 2147483646 := by
  unfold nextX; omega
theorem iterX_bound {key : Int} (h : 0 ≤ key ∧ key ≤ 2147483646) : ∀ k, 0 ≤ iterX key k ∧ iterX key k ≤ 2147483646
  | 0 => h
  | k + 1 => nextX_bound _

/-- The cell that a number falls into. -/
def pickK : List Int → Int → Nat
  | [], _ => 0
  | w :: r, t => if t < w then 0 else 1 + pickK r (t - w)

/-- As far as cell k. -/
theorem pickK_drop {w : List Int} {t : Int} : ∀ k, k < w.length → (∀ j, j < k → sumI (w.take (j + 1)) ≤ t) → pickK w t = k + pickK (w.drop k) (t - sumI (w.take k)) := by
  intro k
  induction k with
  | zero => intro _ _; simp [sumI]
  | succ k ih =>
    intro hk h
    have h1 := ih (by omega) (fun j hj => h j (by omega))
    have hk' : k < w.length := by omega
    have h2 := h k (by omega)
    rw [sumI_take hk'] at h2
    rw [h1, List.drop_eq_getElem_cons hk', pickK, if_neg (by omega), sumI_take hk', show t - sumI (w.take k) - w[k] = t - (sumI (w.take k) + w[k]) by omega]
    omega

theorem pickK_at {w : List Int} {t : Int} {k : Nat} (hk : k < w.length) (h : ∀ j, j < k → sumI (w.take (j + 1)) ≤ t) (ht : t < sumI (w.take (k + 1))) : pickK w t = k := by
  rw [pickK_drop k hk h, List.drop_eq_getElem_cons hk, pickK, if_pos (by rw [sumI_take hk] at ht; omega)]
  omega

theorem pickK_lt {w : List Int} : ∀ {t : Int}, t < sumI w → 0 ≤ t → pickK w t < w.length := by
  induction w with
  | nil => intro t h h0; simp [sumI] at h; omega
  | cons a r ih =>
    intro t h h0
    simp only [pickK, List.length_cons]
    split
    · omega
    · have := ih (t := t - a) (by simp only [sumI] at h; omega) (by omega)
      omega

def drawnV (key : Int) (w : List Int) (k : Nat) : Int := (pickK w (iterX key (k + 1) % sumI w) : Int) - (w.length / 2 : Nat)
/-- What is drawn. -/
def drawnS (key : Int) (n : Nat) (w : List Int) : List (List Int) := tbl n fun c r => drawnV key w (r * n + c)

/-- A sum of the first values. -/
def psum (f : Nat → Int) : Nat → Int
  | 0 => 0
  | n + 1 => psum f n + f n

theorem psum_bound {f : Nat → Int} {b : Int} (h : ∀ k, -b ≤ f k ∧ f k ≤ b) : ∀ n : Nat, -(b * n) ≤ psum f n ∧ psum f n ≤ b * n
  | 0 => by simp [psum]
  | n + 1 => by
    have h1 := psum_bound h n
    have h2 := h n
    have e : b * ((n + 1 : Nat) : Int) = b * n + b := by rw [Int.natCast_add, Int.mul_add]; simp
    simp only [psum, e]
    omega

/-- A value of a kernel. -/
def kv (k : List (List Int)) (j i : Nat) : Int := (k.getD j []).getD i 0

/-- A smoothed value. -/
def smoothV (s k : List (List Int)) (c r : Nat) : Int :=
  psum (fun j => psum (fun i => kv k j i * cellI s ((c : Int) + i - (k.length / 2 : Nat)) ((r : Int) + j - (k.length / 2 : Nat))) k.length) k.length

theorem getD_bound {lo hi : Int} {l : List Int} (h : outI lo hi l = false) (h0 : lo ≤ 0 ∧ 0 ≤ hi) (i : Nat) : lo ≤ l.getD i 0 ∧ l.getD i 0 ≤ hi := by
  by_cases hl : i < l.length
  · have := outI_get h i hl
    simp only [List.getD_eq_getElem?_getD, List.getElem?_eq_getElem hl, Option.getD_some]
    exact this
  · rw [List.getD_eq_getElem?_getD, List.getElem?_eq_none (show l.length ≤ i by omega)]
    exact h0

theorem kv_bound {n : Nat} {lo hi : Int} {k : List (List Int)} (h : sqChk n lo hi k = 0) (h0 : lo ≤ 0 ∧ 0 ≤ hi) (j i : Nat) : lo ≤ kv k j i ∧ kv k j i ≤ hi := by
  unfold kv
  by_cases hl : j < k.length
  · have := sqChk_get h j hl
    simp only [List.getD_eq_getElem?_getD, List.getElem?_eq_getElem hl, Option.getD_some]
    exact getD_bound this.2 h0 i
  · have e : k.getD j [] = [] := by rw [List.getD_eq_getElem?_getD, List.getElem?_eq_none (show k.length ≤ j by omega)]; rfl
    rw [e]
    simpa using h0

theorem cellI_bound {n : Nat} {lo hi : Int} {s : List (List Int)} (h : sqChk n lo hi s = 0) (h0 : lo ≤ 0 ∧ 0 ≤ hi) (c r : Int) : lo ≤ cellI s c r ∧ cellI s c r ≤ hi := by
  unfold cellI
  by_cases hl : (r % s.length).toNat < s.length
  · have := sqChk_get h _ hl
    simp only [List.getD_eq_getElem?_getD, List.getElem?_eq_getElem hl, Option.getD_some]
    exact getD_bound this.2 h0 _
  · have e : s.getD (r % s.length).toNat [] = [] := by rw [List.getD_eq_getElem?_getD, List.getElem?_eq_none (show s.length ≤ (r % s.length).toNat by omega)]; rfl
    rw [e]
    simpa using h0
end VE
end
section
/- Plain laws for SkyDraws: the kernel with a single 1. -/
namespace VE

/-- The kernel with a single 1. -/
def ker (a b : Nat) : List (List Int) := (List.range 3).map fun j => (List.range 3).map fun i => if j = b ∧ i = a then 1 else 0

theorem lt3 {a : Nat} (h : a < 3) : a = 0 ∨ a = 1 ∨ a = 2 := by omega

theorem ker_chk {a b : Nat} (ha : a < 3) (hb : b < 3) : chkKernel (ker a b) = 0 := by
  rcases lt3 ha with rfl | rfl | rfl <;> rcases lt3 hb with rfl | rfl | rfl <;> decide

theorem smooth_ker {s : List (List Int)} {a b : Nat} (ha : a < 3) (hb : b < 3) (c r : Nat) : smoothV s (ker a b) c r = cellI s (c - (1 - a)) (r - (1 - b)) := by
  have hl : (ker a b).length = 3 := by simp [ker]
  unfold smoothV
  rw [hl]
  simp only [psum]
  rcases lt3 ha with rfl | rfl | rfl <;> rcases lt3 hb with rfl | rfl | rfl
  all_goals
    simp only [kv, ker, List.range, List.range.loop, List.map_cons, List.map_nil, List.getD_cons_zero, List.getD_cons_succ]
    simp
    try (congr 1 <;> omega)

theorem outI_of {lo hi : Int} : ∀ {l : List Int}, (∀ x, x ∈ l → lo ≤ x ∧ x ≤ hi) → outI lo hi l = false
  | [], _ => rfl
  | a :: r, h => by
    have h1 := h a (by simp)
    rw [outI, if_neg (by omega), outI_of (fun x hx => h x (by simp [hx]))]
end VE
end
