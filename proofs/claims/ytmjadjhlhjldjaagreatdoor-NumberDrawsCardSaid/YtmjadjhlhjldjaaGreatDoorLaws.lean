set_option linter.all false
section
/- Plain laws for screens: checks, cells, sums. No program in sight. -/
namespace VE

/-- The first that is not 0. -/
def firstI : List Int → Int
  | [] => 0
  | a :: r => if a = 0 then firstI r else a

theorem firstI_drop {l : List Int} {i : Nat} (h : i < l.length) : firstI (l.drop i) = if l[i] = 0 then firstI (l.drop (i + 1)) else l[i] := by
  rw [List.drop_eq_getElem_cons h, firstI]

/-- Is some element outside? -/
def outI (lo hi : Int) : List Int → Bool
  | [] => false
  | a :: r => if a < lo ∨ hi < a then true else outI lo hi r

theorem outI_drop {lo hi : Int} {l : List Int} {i : Nat} (h : i < l.length) : outI lo hi (l.drop i) = if l[i] < lo ∨ hi < l[i] then true else outI lo hi (l.drop (i + 1)) := by
  rw [List.drop_eq_getElem_cons h, outI]

/-- The error of a square. -/
def sqChk (n : Nat) (lo hi : Int) : List (List Int) → Int
  | [] => 0
  | r :: s => if r.length ≠ n then 2 else if outI lo hi r = true then 3 else sqChk n lo hi s

theorem sqChk_drop {n : Nat} {lo hi : Int} {s : List (List Int)} {i : Nat} (h : i < s.length) :
    sqChk n lo hi (s.drop i) = if s[i].length ≠ n then 2 else if outI lo hi s[i] = true then 3 else sqChk n lo hi (s.drop (i + 1)) := by
  rw [List.drop_eq_getElem_cons h, sqChk]

def chkScreen (s : List (List Int)) : Int := if s.length = 0 then 12 else if 16 < s.length then 5 else sqChk s.length (-1000) 1000 s
def chkKernel (k : List (List Int)) : Int := if k.length = 0 then 12 else if 5 < k.length then 5 else if k.length % 2 = 0 then 2 else sqChk k.length (-100) 100 k

/-- All rows have at most 18. -/
def rowsShort : List (List Int) → Bool
  | [] => true
  | r :: s => if 18 < r.length then false else rowsShort s

theorem rowsShort_drop {s : List (List Int)} {i : Nat} (h : i < s.length) : rowsShort (s.drop i) = if 18 < s[i].length then false else rowsShort (s.drop (i + 1)) := by
  rw [List.drop_eq_getElem_cons h, rowsShort]

def shortS (n : Nat) (s : List (List Int)) : Bool := if n < s.length ∧ s.length ≤ 16 ∨ 18 < s.length then false else rowsShort s

def sumI : List Int → Int
  | [] => 0
  | a :: r => a + sumI r

theorem sumI_take {l : List Int} {i : Nat} (h : i < l.length) : sumI (l.take (i + 1)) = sumI (l.take i) + l[i] := by
  induction l generalizing i with
  | nil => exact absurd h (Nat.not_lt_zero _)
  | cons a r ih =>
    cases i with
    | zero => simp [sumI]
    | succ i =>
      have h' : i < r.length := by simpa using h
      simp only [List.take_succ_cons, sumI, List.getElem_cons_succ, ih h']
      omega

theorem sumI_bound {l : List Int} (h : outI 0 1000 l = false) : 0 ≤ sumI l ∧ sumI l ≤ 1000 * l.length := by
  induction l with
  | nil => simp [sumI]
  | cons a r ih =>
    simp only [outI] at h
    split at h
    · cases h
    · rename_i hc
      have := ih h
      simp only [sumI, List.length_cons]
      omega

theorem outI_get {lo hi : Int} {l : List Int} (h : outI lo hi l = false) : ∀ i (hi' : i < l.length), lo ≤ l[i] ∧ l[i] ≤ hi := by
  induction l with
  | nil => intro i hi'; exact absurd hi' (Nat.not_lt_zero _)
  | cons a r ih =>
    simp only [outI] at h
    split at h
    · cases h
    · rename_i hc
      intro i hi'
      cases i with
      | zero => simp only [List.getElem_cons_zero]; omega
      | succ i => simp only [List.getElem_cons_succ]; exact ih h i (by simpa using hi')

theorem outI_take {lo hi : Int} {l : List Int} (h : outI lo hi l = false) : ∀ i, outI lo hi (l.take i) = false := by
  induction l with
  | nil => intro i; simp [outI]
  | cons a r ih =>
    intro i
    simp only [outI] at h
    split at h
    · cases h
    · rename_i hc
      cases i with
      | zero => simp [outI]
      | succ i => simp only [List.take_succ_cons, outI, hc, if_false, ih h i]

/-- The error of a drawing. -/
def chkDrawn (key side : Int) (w : List Int) : Int :=
  if key < 1 ∨ 2147483646 < key then 3 else if side < 1 ∨ 16 < side then 3 else if w.length = 0 then 12 else if 33 < w.length then 5 else if w.length % 2 = 0 then 2 else
  if outI 0 1000 w = true then 3 else if sumI w = 0 then 6 else 0

/-- Are two lists the same? -/
def eqZ : List Int → List Int → Bool
  | [], [] => true
  | a :: r, b :: s => if a = b then eqZ r s else false
  | _, _ => false

theorem eqZ_refl : ∀ l : List Int, eqZ l l = true
  | [] => rfl
  | a :: r => by simp only [eqZ, if_true, eqZ_refl r]

/-- A cell of a periodic screen. -/
def cellI (s : List (List Int)) (c r : Int) : Int := (s.getD (r % s.length).toNat []).getD (c % s.length).toNat 0

theorem tmod_up {n m : Int} (h : 0 < m) : (n.tmod m + m).tmod m = n % m := by
  have e : n.tmod m = if 0 ≤ n ∨ m ∣ n then n % m else n % m - m := by
    rw [Int.tmod_eq_emod]
    split <;> simp_all <;> omega
  have h1 := Int.emod_nonneg n (by omega : m ≠ 0)
  have h2 := Int.emod_lt_of_pos n h
  rw [e]
  split
  · rw [Int.tmod_eq_emod_of_nonneg (by omega), Int.add_emod_right, Int.emod_emod]
  · rw [show n % m - m + m = n % m by omega, Int.tmod_eq_emod_of_nonneg h1, Int.emod_emod]

/-- A square with values in bounds. -/
theorem sqChk_get {n : Nat} {lo hi : Int} {s : List (List Int)} (h : sqChk n lo hi s = 0) : ∀ i (hi' : i < s.length), s[i].length = n ∧ outI lo hi s[i] = false := by
  induction s with
  | nil => intro i hi'; exact absurd hi' (Nat.not_lt_zero _)
  | cons r s ih =>
    simp only [sqChk] at h
    split at h
    · cases h
    · rename_i h1
      split at h
      · cases h
      · rename_i h2
        intro i hi'
        cases i with
        | zero => simp only [List.getElem_cons_zero]; exact ⟨by omega, by simpa using h2⟩
        | succ i => simp only [List.getElem_cons_succ]; exact ih h i (by simpa using hi')
end VE
end
section
/- Plain laws for screens: what is drawn, what is smoothed. -/
namespace VE

/-- A table of n rows of n cells. -/
def tbl (n : Nat) (f : Nat → Nat → Int) : List (List Int) := (List.range n).map fun r => (List.range n).map fun c => f c r

theorem tbl_len (n : Nat) (f : Nat → Nat → Int) : (tbl n f).length = n := by simp [tbl]
theorem tbl_row {n : Nat} {f : Nat → Nat → Int} {r : Nat} (h : r < n) : (tbl n f)[r]'(by rw [tbl_len]; exact h) = (List.range n).map fun c => f c r := by simp [tbl]

def nextX (x : Int) : Int := (39373 * x) % 2147483647
def iterX (x : Int) : Nat → Int
  | 0 => x
  | k + 1 => nextX (iterX x k)

theorem nextX_bound (x : Int) : 0 ≤ nextX x ∧ nextX x ≤ 2147483646 := by
  unfold nextX; omega
theorem iterX_bound {key : Int} (h : 0 ≤ key ∧ key ≤ 2147483646) : ∀ k, 0 ≤ iterX key k ∧ iterX key k ≤ 2147483646
  | 0 => h
  | k + 1 => nextX_bound _

/-- The cell that a number falls into. -/
def pickK : List Int → Int → Nat
  | [], _ => 0
  | w :: r, t => if t < w then 0 else 1 + pickK r (t - w)

/-- As far as cell k. -/
theorem pickK_drop {w : List Int} {t : Int} : ∀ k, k < w.length → (∀ j, j < k → sumI (w.take (j + 1)) ≤ t) → pickK w t = k + pickK (w.drop k) (t - sumI (w.take k)) := by
  intro k
  induction k with
  | zero => intro _ _; simp [sumI]
  | succ k ih =>
    intro hk h
    have h1 := ih (by omega) (fun j hj => h j (by omega))
    have hk' : k < w.length := by omega
    have h2 := h k (by omega)
    rw [sumI_take hk'] at h2
    rw [h1, List.drop_eq_getElem_cons hk', pickK, if_neg (by omega), sumI_take hk', show t - sumI (w.take k) - w[k] = t - (sumI (w.take k) + w[k]) by omega]
    omega

theorem pickK_at {w : List Int} {t : Int} {k : Nat} (hk : k < w.length) (h : ∀ j, j < k → sumI (w.take (j + 1)) ≤ t) (ht : t < sumI (w.take (k + 1))) : pickK w t = k := by
  rw [pickK_drop k hk h, List.drop_eq_getElem_cons hk, pickK, if_pos (by rw [sumI_take hk] at ht; omega)]
  omega

theorem pickK_lt {w : List Int} : ∀ {t : Int}, t < sumI w → 0 ≤ t → pickK w t < w.length := by
  induction w with
  | nil => intro t h h0; simp [sumI] at h; omega
  | cons a r ih =>
    intro t h h0
    simp only [pickK, List.length_cons]
    split
    · omega
    · have := ih (t := t - a) (by simp only [sumI] at h; omega) (by omega)
      omega

def drawnV (key : Int) (w : List Int) (k : Nat) : Int := (pickK w (iterX key (k + 1) % sumI w) : Int) - (w.length / 2 : Nat)
/-- What is drawn. -/
def drawnS (key : Int) (n : Nat) (w : List Int) : List (List Int) := tbl n fun c r => drawnV key w (r * n + c)

/-- A sum of the first values. -/
def psum (f : Nat → Int) : Nat → Int
  | 0 => 0
  | n + 1 => psum f n + f n

theorem psum_bound {f : Nat → Int} {b : Int} (h : ∀ k, -b ≤ f k ∧ f k ≤ b) : ∀ n : Nat, -(b * n) ≤ psum f n ∧ psum f n ≤ b * n
  | 0 => by simp [psum]
  | n + 1 => by
    have h1 := psum_bound h n
    have h2 := h n
    have e : b * ((n + 1 : Nat) : Int) = b * n + b := by rw [Int.natCast_add, Int.mul_add]; simp
    simp only [psum, e]
    omega

/-- A value of a kernel. -/
def kv (k : List (List Int)) (j i : Nat) : Int := (k.getD j []).getD i 0

/-- A smoothed value. -/
def smoothV (s k : List (List Int)) (c r : Nat) : Int :=
  psum (fun j => psum (fun i => kv k j i * cellI s ((c : Int) + i - (k.length / 2 : Nat)) ((r : Int) + j - (k.length / 2 : Nat))) k.length) k.length

theorem getD_bound {lo hi : Int} {l : List Int} (h : outI lo hi l = false) (h0 : lo ≤ 0 ∧ 0 ≤ hi) (i : Nat) : lo ≤ l.getD i 0 ∧ l.getD i 0 ≤ hi := by
  by_cases hl : i < l.length
  · have := outI_get h i hl
    simp only [List.getD_eq_getElem?_getD, List.getElem?_eq_getElem hl, Option.getD_some]
    exact this
  · rw [List.getD_eq_getElem?_getD, List.getElem?_eq_none (show l.length ≤ i by omega)]
    exact h0

theorem kv_bound {n : Nat} {lo hi : Int} {k : List (List Int)} (h : sqChk n lo hi k = 0) (h0 : lo ≤ 0 ∧ 0 ≤ hi) (j i : Nat) : lo ≤ kv k j i ∧ kv k j i ≤ hi := by
  unfold kv
  by_cases hl : j < k.length
  · have := sqChk_get h j hl
    simp only [List.getD_eq_getElem?_getD, List.getElem?_eq_getElem hl, Option.getD_some]
    exact getD_bound this.2 h0 i
  · have e : k.getD j [] = [] := by rw [List.getD_eq_getElem?_getD, List.getElem?_eq_none (show k.length ≤ j by omega)]; rfl
    rw [e]
    simpa using h0

theorem cellI_bound {n : Nat} {lo hi : Int} {s : List (List Int)} (h : sqChk n lo hi s = 0) (h0 : lo ≤ 0 ∧ 0 ≤ hi) (c r : Int) : lo ≤ cellI s c r ∧ cellI s c r ≤ hi := by
  unfold cellI
  by_cases hl : (r % s.length).toNat < s.length
  · have := sqChk_get h _ hl
    simp only [List.getD_eq_getElem?_getD, List.getElem?_eq_getElem hl, Option.getD_some]
    exact getD_bound this.2 h0 _
  · have e : s.getD (r % s.length).toNat [] = [] := by rw [List.getD_eq_getElem?_getD, List.getElem?_eq_none (show s.length ≤ (r % s.length).toNat by omega)]; rfl
    rw [e]
    simpa using h0
end VE
end
section
/- Permutations: the plain law. -/
set_option maxRecDepth 100000
namespace VE
namespace Nd

/-- The numbers from 0 on. -/
def idL (n : Nat) : List Int := (List.range n).map fun i : Nat => (i : Int)
theorem idL_succ (n : Nat) : idL (n + 1) = idL n ++ [(n : Int)] := by simp [idL, List.range_succ]
theorem idL_len (n : Nat) : (idL n).length = n := by simp [idL]
theorem idL_get {n a : Nat} (h : a < n) : (idL n).getD a 0 = (a : Int) := by
  simp [idL, List.getD_eq_getElem?_getD, h]

def swapL (l : List Int) (i k : Nat) : List Int := (l.set i (l.getD k 0)).set k (l.getD i 0)
theorem swapL_len (l : List Int) (i k : Nat) : (swapL l i k).length = l.length := by simp [swapL]
theorem swapL_get {l : List Int} {i k a : Nat} (hi : i < l.length) (hk : k < l.length) : (swapL l i k).getD a 0 = if a = k then l.getD i 0 else if a = i then l.getD k 0 else l.getD a 0 := by
  simp only [swapL, List.getD_eq_getElem?_getD, List.getElem?_set, List.length_set, hi, hk, if_true]
  by_cases h1 : a = k
  · subst h1; simp
  · rw [if_neg (fun h => h1 h.symm), if_neg h1]
    by_cases h2 : a = i
    · subst h2; simp
    · rw [if_neg (fun h => h2 h.symm), if_neg h2]

/-- From place 'i' down. -/
def shuf : Nat → Int → List Int → List Int
  | 0, _, l => l
  | i + 1, x, l => shuf i (nextX x) (swapL l (i + 1) (nextX x % ((i : Int) + 2)).toNat)

def drawE (key n : Int) : Int := if key < 1 ∨ 2147483646 < key then 3 else if n < 0 ∨ 256 < n then 3 else 0
def drawL (key : Int) (n : Nat) : List Int := shuf (n - 1) key (idL n)

/-- Each number once. -/
structure Ord (n : Nat) (l : List Int) : Prop where
  len : l.length = n
  rng : ∀ a, a < n → 0 ≤ l.getD a 0 ∧ l.getD a 0 < n
  inj : ∀ a b, a < n → b < n → l.getD a 0 = l.getD b 0 → a = b

theorem Ord.swap {n : Nat} {l : List Int} (h : Ord n l) {i k : Nat} (hi : i < n) (hk : k < n) : Ord n (swapL l i k) := by
  have e := fun a => swapL_get (a := a) (show i < l.length by rw [h.len]; exact hi) (show k < l.length by rw [h.len]; exact hk)
  refine ⟨by rw [swapL_len]; exact h.len, fun a ha => ?_, fun a b ha hb hab => ?_⟩
  · rw [e]
    split
    · exact h.rng i hi
    · split
      · exact h.rng k hk
      · exact h.rng a ha
  · rw [e, e] at hab
    split at hab <;> split at hab <;> (try split at hab) <;> (try split at hab) <;> first | omega | (have := h.inj _ _ (by assumption) (by assumption) hab; omega)

theorem nextK {x : Int} {i : Nat} : (nextX x % ((i : Int) + 2)).toNat < i + 2 := by
  have := Int.emod_nonneg (nextX x) (show (i : Int) + 2 ≠ 0 by omega)
  have := Int.emod_lt_of_pos (nextX x) (show (0 : Int) < (i : Int) + 2 by omega)
  omega

theorem shuf_ord {n : Nat} : ∀ {i : Nat} {x : Int} {l : List Int}, Ord n l → i < n → Ord n (shuf i x l)
  | 0, _, _, h, _ => h
  | i + 1, x, l, h, hi => by
    have := nextK (x := x) (i := i)
    show Ord n (shuf i (nextX x) (swapL l (i + 1) _))
    exact shuf_ord (h.swap hi (by omega)) (by omega)

theorem shuf_high : ∀ {i : Nat} {x : Int} {l : List Int} {j : Nat}, i < l.length → i < j → (shuf i x l).getD j 0 = l.getD j 0
  | 0, _, _, _, _, _ => rfl
  | i + 1, x, l, j, hi, hj => by
    have := nextK (x := x) (i := i)
    show (shuf i (nextX x) (swapL l (i + 1) _)).getD j 0 = _
    rw [shuf_high (by rw [swapL_len]; omega) (by omega), swapL_get hi (by omega), if_neg (by omega), if_neg (by omega)]

theorem idL_ord (n : Nat) : Ord n (idL n) := by
  refine ⟨idL_len n, fun a ha => ?_, fun a b ha hb h => ?_⟩
  · rw [idL_get ha]; omega
  · rw [idL_get ha, idL_get hb] at h; omega

theorem drawL_ord (key : Int) (n : Nat) : Ord n (drawL key n) := by
  cases n with
  | zero => exact idL_ord 0
  | succ n => exact shuf_ord (idL_ord (n + 1)) (by omega)

theorem drawL_last (key : Int) (n : Nat) : (drawL key (n + 2)).getD (n + 1) 0 = nextX key % ((n : Int) + 2) := by
  have hk := nextK (x := key) (i := n)
  show (shuf n (nextX key) (swapL (idL (n + 2)) (n + 1) _)).getD (n + 1) 0 = _
  rw [shuf_high (by rw [swapL_len, idL_len]; omega) (by omega), swapL_get (by rw [idL_len]; omega) (by rw [idL_len]; omega)]
  have h0 := Int.emod_nonneg (nextX key) (show (n : Int) + 2 ≠ 0 by omega)
  split
  · rw [idL_get (by omega)]; omega
  · rw [if_pos rfl, idL_get (by omega)]; omega
end Nd
end VE
end
