import Derived.Test.YteioemjpepbdgaaGreatDoorGo
import Derived.Test.YteioemjpepbdgaaGreatDoorCode
set_option linter.all false
section
namespace VE
open Go (IntKind)
mutual
def below (n : Nat) : AV → Prop
  | .ptr id _ => id < n
  | .osl id _ _ => id < n
  | .map id => id < n
  | .it id => id < n
  | .fn (.f _) first cap => belowL n first ∧ belowL n cap
  | .fn (.y l) first cap => l < n ∧ first = [] ∧ cap = []
  | .agg cs => belowL n cs
  | .tup cs => belowL n cs
  | _ => True
def belowL (n : Nat) : List AV → Prop
  | [] => True
  | v :: r => below n v ∧ belowL n r
end
def belowE (n : Nat) : Env → Prop
  | [] => True
  | (_, v) :: r => below n v ∧ belowE n r
def belowO (n : Nat) : Obj → Prop
  | .cells _ pu _ _ cs => pu = true ∨ belowL n cs
  | .mp _ ks vs => belowL n ks ∧ belowL n vs
  | .si _ _ => True
  | .lp tm _ _ _ _ _ => belowE n tm
def belowH (b n : Nat) : Hp → Prop
  | [] => True
  | (id, o) :: r => id < b ∧ belowO n o ∧ belowH b n r
mutual
theorem ren_below {f : Nat → Option Nat} {n : Nat} (hf : ∀ x, x < n → f x = some x) : ∀ {v : AV}, below n v → ren f v = v
  | .int _ _, _ | .bool _, _ | .flt _ _, _ | .str _, _ | .nilp, _ | .vptr _, _ | .nils, _ | .vsl _ _ _, _ | .nilf, _ | .nilm, _ | .vmap _ _, _ | .undef, _ | .fsl _ _ _ _, _ => rfl
  | .ptr id o, h => by simp only [ren, hf id h]
  | .osl id o k, h => by simp only [ren, hf id h]
  | .map id, h => by simp only [ren, hf id h]
  | .it id, h => by simp only [ren, hf id h]
  | .fn (.y l) first cap, h => by
    obtain ⟨h1, rfl, rfl⟩ := h
    simp only [ren, hf l h1, renL]
  | .fn (.f _) first cap, h => by
    simp only [ren, renL_below hf h.1, renL_below hf h.2]
  | .agg cs, h => by simp only [below] at h; simp only [ren, renL_below hf h]
  | .tup cs, h => by simp only [below] at h; simp only [ren, renL_below hf h]
theorem renL_below {f : Nat → Option Nat} {n : Nat} (hf : ∀ x, x < n → f x = some x) : ∀ {vs : List AV}, belowL n vs → renL f vs = vs
  | [], _ => rfl
  | v :: r, h => by simp only [renL, ren_below hf h.1, renL_below hf h.2]
end
theorem renE_below {f : Nat → Option Nat} {n : Nat} (hf : ∀ x, x < n → f x = some x) : ∀ {tm : Env}, belowE n tm → renE f tm = tm
  | [], _ => rfl
  | (_, v) :: r, h => by simp only [renE, ren_below hf h.1, renE_below hf h.2]
theorem renO_below {f : Nat → Option Nat} {n : Nat} (hf : ∀ x, x < n → f x = some x) : ∀ {o : Obj}, belowO n o → renO f o = o
  | .cells _ pu _ _ cs, h => by
    cases pu with
    | true => rfl
    | false => simp only [belowO, Bool.false_eq_true, false_or] at h; simp only [renO, cond_false, renL_below hf h]
  | .mp _ ks vs, h => by simp only [renO, renL_below hf h.1, renL_below hf h.2]
  | .si _ _, _ => rfl
  | .lp tm _ _ _ _ _, h => by simp only [belowO] at h; simp only [renO, renE_below hf h]
mutual
theorem refs_below {n : Nat} : ∀ {v : AV}, below n v → ∀ x, x ∈ refs v → x < n
  | .int _ _, _, x, h | .bool _, _, x, h | .flt _ _, _, x, h | .str _, _, x, h | .nilp, _, x, h | .vptr _, _, x, h | .nils, _, x, h | .vsl _ _ _, _, x, h | .nilf, _, x, h | .nilm, _, x, h | .vmap _ _, _, x, h | .undef, _, x, h | .fsl _ _ _ _, _, x, h => by simp [refs] at h
  | .ptr id o, h, x, hx => by simp only [refs, List.mem_singleton] at hx; subst hx; exact h
  | .osl id o k, h, x, hx => by simp only [refs, List.mem_singleton] at hx; subst hx; exact h
  | .map id, h, x, hx => by simp only [refs, List.mem_singleton] at hx; subst hx; exact h
  | .it id, h, x, hx => by simp only [refs, List.mem_singleton] at hx; subst hx; exact h
  | .fn (.y l) first cap, h, x, hx => by simp only [refs, List.mem_singleton] at hx; subst hx; exact h.1
  | .fn (.f _) first cap, h, x, hx => by
    simp only [refs, List.mem_append] at hx
    exact hx.elim (refsL_below h.1 x) (refsL_below h.2 x)
  | .agg cs, h, x, hx => by simp only [below] at h; simp only [refs] at hx; exact refsL_below h x hx
  | .tup cs, h, x, hx => by simp only [below] at h; simp only [refs] at hx; exact refsL_below h x hx
theorem refsL_below {n : Nat} : ∀ {vs : List AV}, belowL n vs → ∀ x, x ∈ refsL vs → x < n
  | [], _, x, h => by simp [refsL] at h
  | v :: r, h, x, hx => by
    simp only [refsL, List.mem_append] at hx
    exact hx.elim (refs_below h.1 x) (refsL_below h.2 x)
end
theorem refsE_below {n : Nat} : ∀ {tm : Env}, belowE n tm → ∀ x, x ∈ refsE tm → x < n
  | [], _, x, h => by simp [refsE] at h
  | (_, v) :: r, h, x, hx => by
    simp only [refsE, List.mem_append] at hx
    exact hx.elim (refs_below h.1 x) (refsE_below h.2 x)
theorem refsO_below {n : Nat} : ∀ {o : Obj}, belowO n o → ∀ x, x ∈ refsO o → x < n
  | .cells _ pu _ _ cs, h, x, hx => by
    cases pu with
    | true => simp [refsO] at hx
    | false => simp only [belowO, Bool.false_eq_true, false_or] at h; simp only [refsO, cond_false] at hx; exact refsL_below h x hx
  | .mp _ ks vs, h, x, hx => by
    simp only [refsO, List.mem_append] at hx
    exact hx.elim (refsL_below h.1 x) (refsL_below h.2 x)
  | .si _ _, _, x, hx => by simp [refsO] at hx
  | .lp tm _ _ _ _ _, h, x, hx => by simp only [belowO] at h; simp only [refsO] at hx; exact refsE_below h x hx
def rowsR (B : Nat) : List (List AV) → Hp
  | [] => []
  | cs :: r => (B + r.length, .cells true true true 1 cs) :: rowsR B r
def rowsO (B : Nat) : List (List AV) → Hp → Hp
  | [], acc => acc
  | cs :: r, acc => rowsO (B + 1) r ((B, .cells true true true 1 cs) :: acc)
theorem rowsO_last : ∀ (l : List (List AV)) (B : Nat) (x : List AV) (acc : Hp), rowsO B (l ++ [x]) acc = (B + l.length, .cells true true true 1 x) :: rowsO B l acc
  | [], B, x, acc => rfl
  | c :: l, B, x, acc => by
    simp only [List.cons_append, rowsO, rowsO_last l, List.length_cons]
    rw [show B + 1 + l.length = B + (l.length + 1) by omega]
theorem rowsO_rev (B : Nat) (acc : Hp) : ∀ rs : List (List AV), rowsO B rs.reverse acc = rowsR B rs ++ acc
  | [] => rfl
  | c :: r => by
    simp only [List.reverse_cons, rowsO_last, rowsO_rev B acc r, List.length_reverse, rowsR, List.cons_append]
theorem hget_rows {B : Nat} {old : Hp} : ∀ {rs : List (List AV)} {i : Nat} (h : i < rs.length), hget (rowsR B rs ++ old) (B + i) = some (.cells true true true 1 (rs.reverse[i]'(by simpa using h)))
  | c :: r, i, h => by
    simp only [rowsR, List.cons_append, List.reverse_cons]
    by_cases hi : i = r.length
    · subst hi
      rw [hget, Nat.beq_refl, cond_true]
      simp
    · have hlt : i < r.length := by simp only [List.length_cons] at h; omega
      rw [hget, nbeq_ne (by omega), cond_false, hget_rows hlt]
      congr 2
      rw [List.getElem_append_left]
theorem hget_rows_old {B : Nat} {old : Hp} : ∀ {rs : List (List AV)} {x : Nat}, x < B → hget (rowsR B rs ++ old) x = hget old x
  | [], x, _ => rfl
  | c :: r, x, h => by
    simp only [rowsR, List.cons_append]
    rw [hget, nbeq_ne (by omega), cond_false, hget_rows_old h]
theorem hset_rows_old {B : Nat} {old : Hp} {o : Obj} : ∀ {rs : List (List AV)} {x : Nat}, x < B → hset (rowsR B rs ++ old) x o = rowsR B rs ++ hset old x o
  | [], x, _ => rfl
  | c :: r, x, h => by
    simp only [rowsR, List.cons_append]
    rw [hset, nbeq_ne (by omega), cond_false, hset_rows_old h]
theorem hdel_rows_old {B : Nat} {old : Hp} : ∀ {rs : List (List AV)} {x : Nat}, x < B → hdel (rowsR B rs ++ old) x = rowsR B rs ++ hdel old x
  | [], x, _ => rfl
  | c :: r, x, h => by
    simp only [rowsR, List.cons_append]
    rw [hdel, nbeq_ne (by omega), cond_false, hdel_rows_old h]
theorem nblt_t {a b : Nat} (h : a < b) : Nat.blt a b = true := Nat.ble_eq_true_of_le h
theorem nblt_f {a b : Nat} (h : b ≤ a) : Nat.blt a b = false := by
  cases hq : Nat.blt a b with
  | false => rfl
  | true => have := Nat.le_of_ble_eq_true hq; omega
theorem oldRefs_rows {B : Nat} {old : Hp} : ∀ rs : List (List AV), oldRefs B (rowsR B rs ++ old) = oldRefs B old
  | [] => rfl
  | c :: r => by
    simp only [rowsR, List.cons_append]
    rw [oldRefs, nblt_f (by omega), cond_false, oldRefs_rows r]
theorem oldOf_rows {B : Nat} {old : Hp} {f : Nat → Option Nat} : ∀ rs : List (List AV), oldOf B f (rowsR B rs ++ old) = oldOf B f old
  | [] => rfl
  | c :: r => by
    simp only [rowsR, List.cons_append]
    rw [oldOf, nblt_f (by omega), cond_false, oldOf_rows r]
theorem oldOf_below {B n : Nat} {f : Nat → Option Nat} (hf : ∀ x, x < n → f x = some x) : ∀ {old : Hp}, belowH B n old → oldOf B f old = old
  | [], _ => rfl
  | (id, o) :: r, h => by
    rw [oldOf, nblt_t h.1, cond_true, renO_below hf h.2.1, oldOf_below hf h.2.2]
theorem memN_range {B s x : Nat} (h : B + s ≤ x) : memN x (List.range' B s) = false := by
  induction s generalizing B with
  | zero => rfl
  | succ s ih => rw [List.range'_succ, memN, nbeq_ne (by omega), cond_false, ih (by omega)]
theorem reach_rows {hp : Hp} {B R : Nat} (hrow : ∀ i, i < R → ∃ rw ex sz cs, hget hp (B + i) = some (.cells rw true ex sz cs)) :
    ∀ (W : List Nat) (fuel s : Nat), W.length < fuel → s ≤ R → W.filter (fun x => !Nat.blt x B) = List.range' (B + s) (R - s) → reach hp B fuel W (List.range' B s) = List.range' B R
  | [], 0, s, hf, _, _ => by simp at hf
  | [], fuel + 1, s, hf, hs, h => by
    rw [List.filter_nil] at h
    have : R - s = 0 := by
      have := congrArg List.length h
      simpa using this.symm
    rw [reach, show R = s by omega]
  | id :: W, 0, s, hf, _, _ => by simp at hf
  | id :: W, fuel + 1, s, hf, hs, h => by
    have hf' : W.length < fuel := by simpa using hf
    rw [reach]
    by_cases hid : id < B
    · rw [nblt_t hid, Bool.true_or, cond_true]
      rw [List.filter_cons, nblt_t hid] at h
      exact reach_rows hrow W fuel s hf' hs (by simpa using h)
    · rw [List.filter_cons, nblt_f (by omega)] at h
      simp only [Bool.not_false, if_true] at h
      have hRs : R - s = (R - s - 1) + 1 := by
        have := congrArg List.length h
        simp only [List.length_cons, List.length_range'] at this
        omega
      rw [hRs, List.range'_succ] at h
      injection h with h1 h2
      subst h1
      rw [nblt_f (by omega), Bool.false_or, memN_range (Nat.le_refl _), cond_false]
      obtain ⟨rw, ex, sz, cs, ho⟩ := hrow s (by omega)
      simp only [ho, refsO, cond_true, List.nil_append]
      have e : List.range' B s ++ [B + s] = List.range' B (s + 1) := by rw [List.range'_concat]; simp
      rw [e]
      exact reach_rows hrow W fuel (s + 1) hf' (by omega) (by rw [h2, show R - s - 1 = R - (s + 1) by omega, show B + s + 1 = B + (s + 1) by omega])
theorem posN_range {B s i k : Nat} (h : i < s) : posN (B + i) (List.range' B s) k = some (k + i) := by
  induction s generalizing B i k with
  | zero => omega
  | succ s ih =>
    rw [List.range'_succ, posN]
    by_cases hi : i = 0
    · subst hi; simp
    · rw [nbeq_ne (by omega), cond_false]
      have := ih (B := B + 1) (i := i - 1) (k := k + 1) (by omega)
      rw [show B + 1 + (i - 1) = B + i by omega, show k + 1 + (i - 1) = k + i by omega] at this
      exact this
theorem newId_range {B R x : Nat} (h : x < B + R) : newId B (List.range' B R) x = some x := by
  unfold newId
  by_cases hx : x < B
  · rw [nblt_t hx, cond_true]
  · rw [nblt_f (by omega), cond_false]
    have := posN_range (B := B) (s := R) (i := x - B) (k := B) (by omega)
    rw [show B + (x - B) = x by omega] at this
    exact this
theorem newOf_rows {hp : Hp} {f : Nat → Option Nat} : ∀ (ro : List (List AV)) (B : Nat) (acc : Hp), (∀ i (h : i < ro.length), hget hp (B + i) = some (.cells true true true 1 ro[i])) → newOf hp f (List.range' B ro.length) B acc = rowsO B ro acc
  | [], B, acc, _ => rfl
  | c :: r, B, acc, h => by
    have h0 := h 0 (by simp)
    simp only [Nat.add_zero, List.getElem_cons_zero] at h0
    rw [List.length_cons, List.range'_succ, newOf]
    simp only [h0, renO, cond_true, rowsO]
    exact newOf_rows r (B + 1) _ (fun i hi => by
      have := h (i + 1) (by simpa using hi)
      rw [show B + 1 + i = B + (i + 1) by omega, this]
      simp)
theorem compact_rows {live : List Nat} {tm : Env} {B ct : Nat} {old : Hp} {rs : List (List AV)} (ht : belowE B (keep tm live)) (ho : belowH B (B + rs.length) old) (hl : (refsE (keep tm live)).length + (oldRefs B old).length < 100000)
    (hr : (oldRefs B old).filter (fun x => !Nat.blt x B) = List.range' B rs.length) : compact live ⟨tm, rowsR B rs ++ old, ct, B⟩ = ⟨keep tm live, rowsR B rs ++ old, B + rs.length, B⟩ := by
  have hrow : ∀ i (h : i < rs.length), hget (rowsR B rs ++ old) (B + i) = some (.cells true true true 1 (rs.reverse[i]'(by simpa using h))) := fun i h => hget_rows h
  have hseen : reach (rowsR B rs ++ old) B 100000 (refsE (keep tm live) ++ oldRefs B (rowsR B rs ++ old)) [] = List.range' B rs.length := by
    have := reach_rows (hp := rowsR B rs ++ old) (B := B) (R := rs.length) (fun i hi => ⟨_, _, _, _, hrow i hi⟩) (refsE (keep tm live) ++ oldRefs B (rowsR B rs ++ old)) 100000 0 (by rw [oldRefs_rows, List.length_append]; exact hl) (Nat.zero_le _) (by
      rw [List.filter_append, oldRefs_rows, hr, List.filter_eq_nil_iff.2 (fun x hx => by
        have := refsE_below ht x hx
        simp [nblt_t this])]
      simp)
    simpa using this
  have hid : ∀ x, x < B + rs.length → newId B (List.range' B rs.length) x = some x := fun x hx => newId_range hx
  have hn := newOf_rows (hp := rowsR B rs ++ old) (f := newId B (List.range' B rs.length)) rs.reverse B old (fun i hi => hrow i (by simpa using hi))
  rw [List.length_reverse] at hn
  simp only [compact, hseen, oldOf_rows, oldOf_below hid ho, hn, rowsO_rev, List.length_range']
  rw [renE_below (n := B) (fun x hx => hid x (by omega)) ht]
theorem oldRefs_lt {B b n : Nat} (hb : b ≤ B) : ∀ {H : Hp}, belowH b n H → ∀ x, x ∈ oldRefs B H → x < n
  | [], _, x, hx => by simp [oldRefs] at hx
  | (id, o) :: r, h, x, hx => by
    rw [oldRefs, nblt_t (by have := h.1; omega), cond_true, List.mem_append] at hx
    exact hx.elim (refsO_below h.2.1 x) (oldRefs_lt hb h.2.2 x)
theorem compact_old {live : List Nat} {tm : Env} {B ct : Nat} {old : Hp} (ht : belowE B (keep tm live)) (ho : belowH B B old) (hl : (refsE (keep tm live)).length + (oldRefs B old).length < 100000) :
    compact live ⟨tm, old, ct, B⟩ = ⟨keep tm live, old, B, B⟩ := by
  have := compact_rows (rs := []) (ct := ct) ht (by simpa using ho) hl (by
    rw [List.filter_eq_nil_iff.2 (fun x hx => by have := oldRefs_lt (Nat.le_refl B) ho x hx; simp [nblt_t this])]
    rfl)
  simpa [rowsR] using this
theorem belowH_app {b n : Nat} : ∀ {a c : Hp}, belowH b n a → belowH b n c → belowH b n (a ++ c)
  | [], _, _, h => h
  | (_, _) :: _, _, h, k => ⟨h.1, h.2.1, belowH_app h.2.2 k⟩
theorem oldRefs_app {B : Nat} : ∀ {a c : Hp}, oldRefs B (a ++ c) = oldRefs B a ++ oldRefs B c
  | [], _ => rfl
  | (id, o) :: a, c => by
    simp only [List.cons_append, oldRefs, oldRefs_app (a := a)]
    cases Nat.blt id B with
    | true => simp only [cond_true, List.append_assoc]
    | false => simp only [cond_false]
theorem belowH_rows {B b n : Nat} : ∀ {rs : List (List AV)}, B + rs.length ≤ b → belowH b n (rowsR B rs)
  | [], _ => trivial
  | c :: r, h => by
    simp only [List.length_cons] at h
    exact ⟨by omega, .inl rfl, belowH_rows (by omega)⟩
theorem oldRefs_rowsR {B b : Nat} : ∀ {rs : List (List AV)}, oldRefs b (rowsR B rs) = []
  | [] => rfl
  | c :: r => by
    simp only [rowsR, oldRefs, refsO, cond_true, List.nil_append, oldRefs_rowsR]
    cases Nat.blt (B + r.length) b <;> rfl
end VE
end
section
set_option maxRecDepth 100000
namespace VE
open Go (IntKind)
section
variable {P : Prog} {L : Lib}
theorem heap_eq {n : Nat} {F : Fnc} (h : Has P L n F) {hp : Hp} {ct : Nat} {vals : List AV} {ex : Ex} {s : St} {v : AV} (hD : D P L F.body ⟨bindArgs 0 vals, hp, ct, ct⟩ = some (ex, s)) (he : ex = .normal ∨ ex = .ret) (hr : resultOf s F.res = some v) :
    evHeap P L (D P L) hp ct n vals = some (v, s.hp, s.ct) := by
  simp only [evHeap, h.heap, h.code, hD]
  rcases he with rfl | rfl <;> simp only [hr]
theorem round_eq {hp : Hp} {ct l : Nat} {xs : List AV} {tm tm' tm1 tm2 : Env} {ps ps1 ps2 : List Nat} {a b a1 b1 a2 b2 : VC} {pe pe1 pe2 : Jump} {s1 s2 : St}
    (h1 : hget hp l = some (.lp tm ps a b 0 pe)) (h2 : bindPs tm ps xs = some tm') (h3 : D P L a ⟨tm', hp, ct, ct⟩ = some (.normal, s1)) (h4 : hget s1.hp l = some (.lp tm1 ps1 a1 b1 0 pe1))
    (h5 : D P L b ⟨s1.tm, hset s1.hp l (.lp tm1 ps1 a1 b1 1 pe1), s1.ct, s1.ct⟩ = some (.normal, s2)) (h6 : hget s2.hp l = some (.lp tm2 ps2 a2 b2 1 pe2)) :
    evRound (D P L) hp ct l xs = some (.bool true, hset s2.hp l (.lp tm2 ps2 a2 b2 0 .none), s2.ct) := by
  simp only [evRound, h1, h2, h3, h4, h5, h6]
theorem rf_eq {f : X} {ps : List Nat} {as_ body : VC} {s : St} {n : Nat} {first cap : List AV} {v : AV} {hp : Hp} {ct : Nat} {tm : Env} {ps' : List Nat} {a b : VC} {st : Nat}
    (h1 : xget s.tm f = .fn (.f n) first cap) (h2 : L.heap n = none) (h3 : evHeap P L (D P L) ((s.ct, .lp s.tm ps as_ body 0 .none) :: s.hp) (s.ct + 1) n (first ++ (.fn (.y s.ct) [] [] :: cap)) = some (v, hp, ct))
    (h4 : hget hp s.ct = some (.lp tm ps' a b st .none)) (h5 : st ≠ 1) : D P L (.rf f ps as_ body) s = some (.normal, ⟨s.tm, hdel hp s.ct, ct, s.base⟩) := by
  rw [D_eq]
  simp only [evStep, h1, h2, h3, h4, nbeq_ne h5, cond_false]
def outc (B n R : Nat) : List AV := (List.range R).map (fun i => .osl (B + i) 0 n) ++ List.replicate (n - R) .nils
def rowc (zero : AV) (val : Nat → Nat → AV) (n r c : Nat) : List AV := (List.range c).map (fun c => val c r) ++ List.replicate (n - c) zero
def rowsF (val : Nat → Nat → AV) (n : Nat) : Nat → List (List AV)
  | 0 => []
  | r + 1 => ((List.range n).map fun c => val c r) :: rowsF val n r
theorem rowsF_len (val : Nat → Nat → AV) (n : Nat) : ∀ r, (rowsF val n r).length = r
  | 0 => rfl
  | r + 1 => by rw [rowsF, List.length_cons, rowsF_len val n r]
theorem outc_len {B n R : Nat} (h : R ≤ n) : (outc B n R).length = n := by simp [outc]; omega
theorem rowc_len {zero : AV} {val : Nat → Nat → AV} {n r c : Nat} (h : c ≤ n) : (rowc zero val n r c).length = n := by simp [rowc]; omega
theorem over_rep {l : List AV} {k : Nat} {v z : AV} : over l.length [v] (l ++ List.replicate (k + 1) z) = l ++ [v] ++ List.replicate k z := by
  simp only [over, List.take_left', List.length_cons, List.length_nil, Nat.zero_add, List.replicate_succ]
  rw [show l ++ z :: List.replicate k z = (l ++ [z]) ++ List.replicate k z by simp, show l.length + 1 = (l ++ [z]).length by simp, List.drop_left']
  rfl
theorem outc_over {B n R : Nat} (h : R < n) : over R [.osl (B + R) 0 n] (outc B n R) = outc B n (R + 1) := by
  have := over_rep (l := (List.range R).map (fun i => AV.osl (B + i) 0 n)) (k := n - R - 1) (v := .osl (B + R) 0 n) (z := .nils)
  simp only [List.length_map, List.length_range] at this
  rw [show n - R - 1 + 1 = n - R by omega] at this
  rw [outc, this, outc, List.range_succ, List.map_append]
  rfl
theorem rowc_over {zero : AV} {val : Nat → Nat → AV} {n r c : Nat} (h : c < n) : over c [val c r] (rowc zero val n r c) = rowc zero val n r (c + 1) := by
  have := over_rep (l := (List.range c).map (fun c => val c r)) (k := n - c - 1) (v := val c r) (z := zero)
  simp only [List.length_map, List.length_range] at this
  rw [show n - c - 1 + 1 = n - c by omega] at this
  rw [rowc, this, rowc, List.range_succ, List.map_append]
  rfl
theorem rowc_full {zero : AV} {val : Nat → Nat → AV} {n r : Nat} : rowc zero val n r n = (List.range n).map fun c => val c r := by simp [rowc]
theorem rowc_zero {zero : AV} {val : Nat → Nat → AV} {n r : Nat} : rowc zero val n r 0 = List.replicate n zero := by simp [rowc]
theorem flat_rep (z : AV) : ∀ n, (List.replicate n [z]).flatten = List.replicate n z
  | 0 => rfl
  | n + 1 => by rw [List.replicate_succ, List.flatten_cons, flat_rep z n, List.replicate_succ]; rfl
def bTM (b n : Nat) (fnv : AV) : Env := [(11, .fn (.f 133) [] [.vptr [.int .i64 n]]), (10, .int .i64 n), (5, .ptr (b + 3) 0), (9, .osl (b + 2) 0 n), (8, .int .i64 n), (4, .nils), (3, .ptr (b + 1) 0), (2, .ptr b 0), (0, .int .i64 n), (1, fnv)]
def bOld (b n R : Nat) (fnv : AV) (st : Nat) (H : Hp) : Hp :=
  (b + 4, .lp (bTM b n fnv) [12, 13] c40_0 c40_1 st .none) :: (b + 3, .cells true false true 1 [.osl (b + 2) 0 n]) :: (b + 2, .cells true (Nat.beq R 0) true 1 (outc (b + 5) n R)) :: (b + 1, .cells true (pureAV fnv) true 1 [fnv]) :: (b, .cells true true true 1 [.int .i64 n]) :: H
theorem oldRefs_below {B b n : Nat} (hb : b ≤ B) : ∀ {H : Hp}, belowH b n H → ∀ x, x ∈ oldRefs B H → x < n
  | [], _, x, hx => by simp [oldRefs] at hx
  | (id, o) :: r, h, x, hx => by
    rw [oldRefs, nblt_t (by have := h.1; omega), cond_true, List.mem_append] at hx
    exact hx.elim (refsO_below h.2.1 x) (oldRefs_below hb h.2.2 x)
theorem belowH_mono {b b' n n' : Nat} (hb : b ≤ b') (hn : ∀ o, belowO n o → belowO n' o) : ∀ {H : Hp}, belowH b n H → belowH b' n' H
  | [], _ => trivial
  | (id, o) :: r, h => ⟨Nat.lt_of_lt_of_le h.1 hb, hn o h.2.1, belowH_mono hb hn h.2.2⟩
mutual
theorem below_mono {n n' : Nat} (h : n ≤ n') : ∀ {v : AV}, below n v → below n' v
  | .int _ _, _ | .bool _, _ | .flt _ _, _ | .str _, _ | .nilp, _ | .vptr _, _ | .nils, _ | .vsl _ _ _, _ | .nilf, _ | .nilm, _ | .vmap _ _, _ | .undef, _ | .fsl _ _ _ _, _ => trivial
  | .ptr _ _, k => Nat.lt_of_lt_of_le k h
  | .osl _ _ _, k => Nat.lt_of_lt_of_le k h
  | .map _, k => Nat.lt_of_lt_of_le k h
  | .it _, k => Nat.lt_of_lt_of_le k h
  | .fn (.f _) _ _, k => ⟨belowL_mono h k.1, belowL_mono h k.2⟩
  | .fn (.y _) _ _, k => ⟨Nat.lt_of_lt_of_le k.1 h, k.2⟩
  | .agg cs, k => by simp only [below] at k ⊢; exact belowL_mono h k
  | .tup cs, k => by simp only [below] at k ⊢; exact belowL_mono h k
theorem belowL_mono {n n' : Nat} (h : n ≤ n') : ∀ {vs : List AV}, belowL n vs → belowL n' vs
  | [], _ => trivial
  | _ :: _, k => ⟨below_mono h k.1, belowL_mono h k.2⟩
end
theorem belowE_mono {n n' : Nat} (h : n ≤ n') : ∀ {tm : Env}, belowE n tm → belowE n' tm
  | [], _ => trivial
  | (_, _) :: _, k => ⟨below_mono h k.1, belowE_mono h k.2⟩
theorem belowO_mono {n n' : Nat} (h : n ≤ n') : ∀ {o : Obj}, belowO n o → belowO n' o
  | .cells _ pu _ _ cs, k => k.imp id (belowL_mono h)
  | .mp _ ks vs, k => ⟨belowL_mono h k.1, belowL_mono h k.2⟩
  | .si _ _, _ => trivial
  | .lp tm _ _ _ _ _, k => by simp only [belowO] at k ⊢; exact belowE_mono h k
mutual
theorem below_pure {n : Nat} : ∀ {v : AV}, pureAV v = true → below n v
  | .int _ _, _ | .bool _, _ | .flt _ _, _ | .str _, _ | .nilp, _ | .vptr _, _ | .nils, _ | .vsl _ _ _, _ | .nilf, _ | .nilm, _ | .vmap _ _, _ | .undef, _ => trivial
  | .fsl _ _ _ _, _ => trivial
  | .ptr _ _, h | .osl _ _ _, h | .map _, h | .it _, h => by simp [pureAV] at h
  | .fn (.y _) _ _, h => by simp [pureAV] at h
  | .fn (.f _) _ _, h => by
    simp only [pureAV, Bool.and_eq_true] at h
    exact ⟨belowL_pure h.1, belowL_pure h.2⟩
  | .agg cs, h => by simp only [pureAV] at h; simp only [below]; exact belowL_pure h
  | .tup cs, h => by simp only [pureAV] at h; simp only [below]; exact belowL_pure h
theorem belowL_pure {n : Nat} : ∀ {vs : List AV}, pureL vs = true → belowL n vs
  | [], _ => trivial
  | _ :: _, h => by
    simp only [pureL, Bool.and_eq_true] at h
    exact ⟨below_pure h.1, belowL_pure h.2⟩
end
structure Older (b : Nat) (fnv : AV) (H : Hp) : Prop where
  fv : below b fnv
  fl : (refs fnv).length ≤ 1000
  one : oneCell fnv = true
  hb : belowH b b H
  hl : ∀ B, (oldRefs B H).length ≤ 1000
theorem outc_below {B n R : Nat} : belowL (B + R) (outc B n R) := by
  unfold outc
  have app : ∀ {a c : List AV}, belowL (B + R) a → belowL (B + R) c → belowL (B + R) (a ++ c) := by
    intro a c
    induction a with
    | nil => intro _ h; exact h
    | cons x a ih => intro h1 h2; exact ⟨h1.1, ih h1.2 h2⟩
  have hm : ∀ l : List Nat, (∀ i, i ∈ l → i < R) → belowL (B + R) (l.map fun i => AV.osl (B + i) 0 n) := by
    intro l
    induction l with
    | nil => intro _; trivial
    | cons x l ih => intro h; exact ⟨by have := h x (by simp); show B + x < B + R; omega, ih (fun i hi => h i (by simp [hi]))⟩
  refine app (hm _ (fun i hi => List.mem_range.1 hi)) (belowL_pure ?_)
  induction n - R with
  | zero => rfl
  | succ k ih => rw [List.replicate_succ]; exact ih
theorem outc_refs {B n R : Nat} : refsL (outc B n R) = List.range' B R := by
  unfold outc
  have app : ∀ a c : List AV, refsL (a ++ c) = refsL a ++ refsL c := by
    intro a c
    induction a with
    | nil => rfl
    | cons x a ih => simp only [List.cons_append, refsL, ih, List.append_assoc]
  have hm : ∀ l : List Nat, refsL (l.map fun i => AV.osl (B + i) 0 n) = l.map (B + ·) := by
    intro l
    induction l with
    | nil => rfl
    | cons x l ih => simp only [List.map_cons, refsL, refs, ih]; rfl
  have hr : refsL (List.replicate (n - R) AV.nils) = [] := by
    induction n - R with
    | zero => rfl
    | succ k ih => rw [List.replicate_succ]; exact ih
  rw [app, hm, hr, List.append_nil, List.range'_eq_map_range]
theorem compact_built {live : List Nat} {tm : Env} {b n ct st : Nat} {fnv : AV} {H : Hp} {rs : List (List AV)} (ho : Older b fnv H) (hn : rs.length ≤ n) (hn1 : n ≤ 1000) (ht : belowE (b + 5) (keep tm live)) (hl : (refsE (keep tm live)).length ≤ 1000) :
    compact live ⟨tm, rowsR (b + 5) rs ++ bOld b n rs.length fnv st H, ct, b + 5⟩ = ⟨keep tm live, rowsR (b + 5) rs ++ bOld b n rs.length fnv st H, b + 5 + rs.length, b + 5⟩ := by
  have hout : belowO (b + 5 + rs.length) (.cells true (Nat.beq rs.length 0) true 1 (outc (b + 5) n rs.length)) := .inr outc_below
  have hoRefs : refsO (.cells true (Nat.beq rs.length 0) true 1 (outc (b + 5) n rs.length)) = List.range' (b + 5) rs.length := by
    cases rs with
    | nil => rfl
    | cons c r => simp only [refsO, List.length_cons, nbeq_ne (Nat.succ_ne_zero _), cond_false, outc_refs]
  have hTM : belowE b (bTM b n fnv) → True := fun _ => trivial
  have hTMb : belowE (b + 4) (bTM b n fnv) := by
    have := below_mono (show b ≤ b + 4 by omega) ho.fv
    refine ⟨⟨trivial, trivial, trivial⟩, trivial, show b + 3 < b + 4 by omega, show b + 2 < b + 4 by omega, trivial, trivial, show b + 1 < b + 4 by omega, show b < b + 4 by omega, trivial, this, trivial⟩
  have hTMr : (refsE (bTM b n fnv)).length ≤ 1010 := by
    have := ho.fl
    simp [bTM, refsE, refs, refsL]
    omega
  have hfl : (refsO (.cells true (pureAV fnv) true 1 [fnv])).length ≤ 1000 := by
    cases pureAV fnv with
    | true => simp [refsO]
    | false => simp [refsO, refsL]; exact ho.fl
  have hHr := oldRefs_below (B := b + 5) (show b ≤ b + 5 by omega) ho.hb
  have e : oldRefs (b + 5) (bOld b n rs.length fnv st H) = refsE (bTM b n fnv) ++ ([b + 2] ++ (List.range' (b + 5) rs.length ++ (refsO (.cells true (pureAV fnv) true 1 [fnv]) ++ ([] ++ oldRefs (b + 5) H)))) := by
    simp only [bOld, oldRefs, nblt_t (show b + 4 < b + 5 by omega), nblt_t (show b + 3 < b + 5 by omega), nblt_t (show b + 2 < b + 5 by omega), nblt_t (show b + 1 < b + 5 by omega), nblt_t (show b < b + 5 by omega), cond_true, hoRefs]
    simp only [refsO, refsL, refs, cond_false, cond_true, List.append_nil]
  have no : ∀ (l : List Nat), (∀ x, x ∈ l → x < b + 5) → l.filter (fun x => !Nat.blt x (b + 5)) = [] := fun l h => List.filter_eq_nil_iff.2 (fun x hx => by simp [nblt_t (h x hx)])
  have all : ∀ (k : Nat), (List.range' (b + 5) k).filter (fun x => !Nat.blt x (b + 5)) = List.range' (b + 5) k := fun k => List.filter_eq_self.2 (fun x hx => by
    have := (List.mem_range'_1.1 hx).1
    simp [nblt_f this])
  refine compact_rows ht ?_ ?_ ?_
  · refine ⟨by omega, belowE_mono (by omega) hTMb, by omega, .inr ⟨show b + 2 < _ by omega, trivial⟩, by omega, hout, by omega, .inr ⟨below_mono (by omega) ho.fv, trivial⟩, by omega, .inl rfl, ?_⟩
    exact belowH_mono (by omega) (fun o h => belowO_mono (by omega) h) ho.hb
  · rw [e]
    have := ho.hl (b + 5)
    simp only [List.length_append, List.length_range', List.length_cons, List.length_nil]
    omega
  · rw [e]
    simp only [List.filter_append]
    rw [no _ (fun x hx => by have := refsE_below hTMb x hx; omega), no [b + 2] (fun x hx => by simp at hx; omega), all, no _ (fun x hx => by
      have h1 : belowO b (.cells true (pureAV fnv) true 1 [fnv]) := .inr ⟨ho.fv, trivial⟩
      have := refsO_below h1 x hx; omega), no [] (fun x hx => by simp at hx), no _ (fun x hx => by have := hHr x hx; omega)]
    simp
end
end VE
end
section
set_option maxRecDepth 100000
namespace VE
open Go (IntKind)
section
variable {P : Prog} {L : Lib}
def caldO (tm : Env) (hp : Hp) (rs : List (Nat × Bool × Nat)) (q : Res) : Res := match q with | some (v, hp', ct') => bif sameLds tm hp hp' rs then some (v, hp', ct') else none | none => none
theorem op_calld {f : Run} {tm : Env} {hp : Hp} {ct : Nat} (rs : List (Nat × Bool × Nat)) (g : X) (xs : List X) : evOp P L f tm hp ct (.calld rs g xs) = caldO tm hp rs (evCall P L f hp ct .dyn (xget tm g) (xgets tm xs)) := rfl
theorem caldO_s {tm : Env} {hp hp' : Hp} {rs : List (Nat × Bool × Nat)} {v : AV} {ct' : Nat} (h : sameLds tm hp hp' rs = true) : caldO tm hp rs (some (v, hp', ct')) = some (v, hp', ct') := by
  simp only [caldO, h, cond_true]
section
variable {b n R st : Nat} {fnv : AV} {H : Hp} {rs : List (List AV)}
theorem bOld_get0 : hget (rowsR (b + 5) rs ++ bOld b n R fnv st H) b = some (.cells true true true 1 [.int .i64 n]) := by
  rw [hget_rows_old (by omega)]
  simp only [bOld, hget, nbeq_ne (show b + 4 ≠ b by omega), nbeq_ne (show b + 3 ≠ b by omega), nbeq_ne (show b + 2 ≠ b by omega), nbeq_ne (show b + 1 ≠ b by omega), Nat.beq_refl, cond_false, cond_true]
theorem bOld_get1 : hget (rowsR (b + 5) rs ++ bOld b n R fnv st H) (b + 1) = some (.cells true (pureAV fnv) true 1 [fnv]) := by
  rw [hget_rows_old (by omega)]
  simp only [bOld, hget, nbeq_ne (show b + 4 ≠ b + 1 by omega), nbeq_ne (show b + 3 ≠ b + 1 by omega), nbeq_ne (show b + 2 ≠ b + 1 by omega), Nat.beq_refl, cond_false, cond_true]
theorem bOld_get2 : hget (rowsR (b + 5) rs ++ bOld b n R fnv st H) (b + 2) = some (.cells true (Nat.beq R 0) true 1 (outc (b + 5) n R)) := by
  rw [hget_rows_old (by omega)]
  simp only [bOld, hget, nbeq_ne (show b + 4 ≠ b + 2 by omega), nbeq_ne (show b + 3 ≠ b + 2 by omega), Nat.beq_refl, cond_false, cond_true]
theorem bOld_get3 : hget (rowsR (b + 5) rs ++ bOld b n R fnv st H) (b + 3) = some (.cells true false true 1 [.osl (b + 2) 0 n]) := by
  rw [hget_rows_old (by omega)]
  simp only [bOld, hget, nbeq_ne (show b + 4 ≠ b + 3 by omega), Nat.beq_refl, cond_false, cond_true]
theorem bOld_get4 : hget (rowsR (b + 5) rs ++ bOld b n R fnv st H) (b + 4) = some (.lp (bTM b n fnv) [12, 13] c40_0 c40_1 st .none) := by
  rw [hget_rows_old (by omega)]
  simp only [bOld, hget, Nat.beq_refl, cond_true]
theorem bOld_set4 {st' : Nat} : hset (rowsR (b + 5) rs ++ bOld b n R fnv st H) (b + 4) (.lp (bTM b n fnv) [12, 13] c40_0 c40_1 st' .none) = rowsR (b + 5) rs ++ bOld b n R fnv st' H := by
  rw [hset_rows_old (by omega)]
  simp only [bOld, hset, Nat.beq_refl, cond_true]
theorem bOld_set2 : hset (rowsR (b + 5) rs ++ bOld b n R fnv st H) (b + 2) (.cells true false true 1 (outc (b + 5) n (R + 1))) = rowsR (b + 5) rs ++ bOld b n (R + 1) fnv st H := by
  rw [hset_rows_old (by omega)]
  simp only [bOld, hset, nbeq_ne (show b + 4 ≠ b + 2 by omega), nbeq_ne (show b + 3 ≠ b + 2 by omega), Nat.beq_refl, cond_false, cond_true, nbeq_ne (Nat.succ_ne_zero R)]
theorem rows_new {cs : List AV} {old : Hp} {ct : Nat} (h : ct = b + 5 + rs.length) : (ct, Obj.cells true true true 1 cs) :: (rowsR (b + 5) rs ++ old) = rowsR (b + 5) (cs :: rs) ++ old := by
  subst h; rfl
theorem rows_get {cs : List AV} {old : Hp} {x : Nat} (h : x = b + 5 + rs.length) : hget (rowsR (b + 5) (cs :: rs) ++ old) x = some (.cells true true true 1 cs) := by
  subst h; simp only [rowsR, List.cons_append, hget_hit]
theorem rows_set {cs cs' : List AV} {old : Hp} {x : Nat} (h : x = b + 5 + rs.length) : hset (rowsR (b + 5) (cs :: rs) ++ old) x (.cells true true true 1 cs') = rowsR (b + 5) (cs' :: rs) ++ old := by
  subst h; simp only [rowsR, List.cons_append, hset_hit]
end
theorem outc_drop {B n r : Nat} : (outc B n (r + 1)).drop r = .osl (B + r) 0 n :: List.replicate (n - (r + 1)) .nils := by
  unfold outc
  rw [List.range_succ, List.map_append, List.append_assoc, List.drop_left' (by simp)]
  rfl
theorem built_cell {b n r c : Nat} (hr : r < n) (hc : c < n) {fnv v : AV} {H H' : Hp} {cur : List AV} {prev : List (List AV)} (hp : prev.length = r) (hcur : cur.length = n) (hv1 : oneCell v = true) (hv2 : pureAV v = true) {tm : Env} {ct base : Nat}
    (h3 : tget tm 3 = .ptr (b + 1) 0) (h5 : tget tm 5 = .ptr (b + 3) 0) (h6 : tget tm 6 = I64 c) (h7 : tget tm 7 = I64 r)
    (hcl : evCall P L (D P L) (rowsR (b + 5) (cur :: prev) ++ bOld b n (r + 1) fnv 1 H) ct .dyn fnv [I64 c, I64 r] = some (v, rowsR (b + 5) (cur :: prev) ++ bOld b n (r + 1) fnv 1 H', ct)) :
    ∃ tm', D P L (.reg [⟨some 21, none, .ld 1 false (.t 5)⟩, ⟨some 22, none, .mov (.t 7)⟩, ⟨some 23, none, .ixa 1 (.t 21) (.t 22)⟩, ⟨some 24, none, .ld 1 false (.t 23)⟩, ⟨some 25, none, .mov (.t 6)⟩, ⟨some 26, none, .ld 1 false (.t 3)⟩,
      ⟨some 27, none, .mov (.t 6)⟩, ⟨some 28, none, .mov (.t 7)⟩, ⟨some 29, none, .calld [(1, false, 5), (1, false, 23)] (.t 26) [(.t 27), (.t 28)]⟩, ⟨some 30, none, .ixa 1 (.t 24) (.t 25)⟩, ⟨none, none, .st 1 (.t 30) (.t 29)⟩])
      ⟨tm, rowsR (b + 5) (cur :: prev) ++ bOld b n (r + 1) fnv 1 H, ct, base⟩ = some (.normal, ⟨tm', rowsR (b + 5) (over c [v] cur :: prev) ++ bOld b n (r + 1) fnv 1 H', ct, base⟩) := by
  have hl : ∀ H, hget (rowsR (b + 5) (cur :: prev) ++ bOld b n (r + 1) fnv 1 H) (b + 5 + r) = some (.cells true true true 1 cur) := fun H => rows_get (by omega)
  have hs : ∀ H X, hset (rowsR (b + 5) (cur :: prev) ++ bOld b n (r + 1) fnv 1 H) (b + 5 + r) (.cells true true true 1 X) = rowsR (b + 5) (X :: prev) ++ bOld b n (r + 1) fnv 1 H := fun H X => rows_set (by omega)
  have hcells : cellsOf v = [v] := by cases v <;> simp_all [cellsOf, oneCell]
  have hst : ∀ H, stC (rowsR (b + 5) (cur :: prev) ++ bOld b n (r + 1) fnv 1 H) ct (b + 5 + r) c 1 [v] (some (.cells true true true 1 cur)) = some (.tup [], hset (rowsR (b + 5) (cur :: prev) ++ bOld b n (r + 1) fnv 1 H) (b + 5 + r) (.cells true true true 1 (over c [v] cur)), ct) := fun H => by
    rw [stC_n (sz := 1) (by rfl) (by omega) (by simp [oneCells, hv1])]
    simp [pureL, hv2]
  simp only [go_sem, Nat.reduceEqDiff, Nat.mul_one, h3, h5, h6, h7, bOld_get3, bOld_get2, bOld_get1, ixa_osl _ _ hr, Nat.zero_add, outc_drop, op_calld, hcl]
  rw [caldO_s]
  · simp only [go_sem, Nat.reduceEqDiff, Nat.mul_one, ixa_osl _ _ hc, Nat.zero_add, hcells, hl, hst, hs]
    exact ⟨_, rfl⟩
  · simp only [sameLds]
    simp only [go_sem, Nat.reduceEqDiff, h5, bOld_get3, bOld_get2, outc_drop, eqAV, Nat.beq_refl]
theorem built_round {b n r c : Nat} (hr : r < n) (hc : c < n) (hn1 : n ≤ 1000) {fnv : AV} (hf : oneCell fnv = true) {val : Nat → Nat → AV} (hv1 : oneCell (val c r) = true) (hv2 : pureAV (val c r) = true) {H H' : Hp} {prev rs : List (List AV)} (hp : prev.length = r)
    (hrs : rs = if c = 0 then prev else rowc (.int .i64 0) val n r c :: prev)
    (hcl : ∀ cur, evCall P L (D P L) (rowsR (b + 5) (cur :: prev) ++ bOld b n (r + 1) fnv 1 H) (b + 5 + (r + 1)) .dyn fnv [I64 c, I64 r] = some (val c r, rowsR (b + 5) (cur :: prev) ++ bOld b n (r + 1) fnv 1 H', b + 5 + (r + 1))) :
    evRound (D P L) (rowsR (b + 5) rs ++ bOld b n rs.length fnv 0 H) (b + 5 + rs.length) (b + 4) [I64 c, I64 r] =
      some (.bool true, rowsR (b + 5) (rowc (.int .i64 0) val n r (c + 1) :: prev) ++ bOld b n (r + 1) fnv 0 H', b + 5 + (r + 1)) := by
  have hcells : cellsOf fnv = [fnv] := by cases fnv <;> simp_all [cellsOf, oneCell]
  have hb : ∃ tm', D P L c40_1 ⟨(7, I64 r) :: (6, I64 c) :: (13, I64 r) :: (12, I64 c) :: bTM b n fnv, rowsR (b + 5) rs ++ bOld b n rs.length fnv 1 H, b + 5 + rs.length, b + 5 + rs.length⟩ =
      some (.normal, ⟨tm', rowsR (b + 5) (rowc (.int .i64 0) val n r (c + 1) :: prev) ++ bOld b n (r + 1) fnv 1 H', b + 5 + (r + 1), b + 5 + rs.length⟩) := by
    by_cases h0 : c = 0
    · subst h0
      rw [if_pos rfl] at hrs
      subst hrs
      have hst : ∀ H, stC (rowsR (b + 5) (List.replicate n (.int .i64 0) :: rs) ++ bOld b n r fnv 1 H) (b + 5 + r + 1) (b + 2) r 1 [.osl (b + 5 + r) 0 n] (some (.cells true (Nat.beq r 0) true 1 (outc (b + 5) n r))) =
          some (.tup [], rowsR (b + 5) (List.replicate n (.int .i64 0) :: rs) ++ bOld b n (r + 1) fnv 1 H, b + 5 + r + 1) := fun H => by
        rw [stC_n (sz := 1) (by rfl) (by rw [outc_len (by omega)]; omega) (by rfl), outc_over hr]
        simp only [pureL_cons, pu_osl, Bool.false_and, Bool.and_false, bOld_set2]
      obtain ⟨tm', h2⟩ := built_cell (P := P) (L := L) (b := b) (c := 0) hr hc (cur := List.replicate n (.int .i64 0)) (prev := rs) hp (by simp) hv1 hv2 (H := H) (H' := H') (ct := b + 5 + r + 1) (base := b + 5 + r) (fnv := fnv)
        (tm := (20, .ptr (b + 2) r) :: (19, .osl (b + 5 + r) 0 n) :: (18, .int .i64 n) :: (17, I64 r) :: (16, .osl (b + 2) 0 n) :: (15, .bool true) :: (14, I64 ((0 : Nat) : Int)) :: (7, I64 r) :: (6, I64 ((0 : Nat) : Int)) :: (13, I64 r) :: (12, I64 ((0 : Nat) : Int)) :: bTM b n fnv)
        (by rfl) (by rfl) (by rfl) (by rfl) (hcl _)
      refine ⟨tm', ?_⟩
      simp only [hp]
      unfold c40_1
      rw [D_blk, D_seq, D_seq, D_reg]
      simp only [go_sem, Nat.reduceEqDiff, Nat.mul_one, bTM, bOld_get3, bOld_get0, ixa_osl _ _ hr, Nat.zero_add, Int.cast_ofNat_Int, mksV_s (ct := b + 5 + r) (sz := 1) (by' := 8) (l := n) (z := [.int .i64 0]) (by omega) (by omega) rfl rfl, flat_rep]
      rw [rows_new (rs := rs) (ct := b + 5 + r) (by omega), bOld_get2, hst]
      simp only [contO_s, put_n, ops_nil, norm_s, bindN_n]
      simp only [bTM, Int.cast_ofNat_Int] at h2
      rw [h2, bindB_n, ← rowc_over hc, rowc_zero]
      rfl
    · rw [if_neg h0] at hrs
      subst hrs
      obtain ⟨tm', h2⟩ := built_cell (P := P) (L := L) (b := b) (c := c) hr hc (cur := rowc (.int .i64 0) val n r c) (prev := prev) hp (rowc_len (by omega)) hv1 hv2 (H := H) (H' := H') (ct := b + 5 + (r + 1)) (base := b + 5 + (r + 1)) (fnv := fnv)
        (tm := (15, .bool false) :: (14, I64 c) :: (7, I64 r) :: (6, I64 c) :: (13, I64 r) :: (12, I64 c) :: bTM b n fnv)
        (by rfl) (by rfl) (by rfl) (by rfl) (hcl _)
      refine ⟨tm', ?_⟩
      simp only [List.length_cons, hp]
      unfold c40_1
      rw [D_blk, D_seq, D_seq, D_reg]
      simp only [bTM] at h2 ⊢
      simp only [go_sem, Nat.reduceEqDiff, show ¬ (c : Int) = 0 by omega]
      simp only [go_sem, Nat.reduceEqDiff] at h2
      rw [h2, bindB_n, rowc_over hc]
  obtain ⟨tm', hb⟩ := hb
  have hlen : b + 5 + (r + 1) = b + 5 + (rowc (.int .i64 0) val n r (c + 1) :: prev).length := by rw [List.length_cons, hp]
  rw [round_eq (bOld_get4) (tm' := (13, I64 r) :: (12, I64 c) :: bTM b n fnv) rfl (s1 := ⟨(7, I64 r) :: (6, I64 c) :: (13, I64 r) :: (12, I64 c) :: bTM b n fnv, rowsR (b + 5) rs ++ bOld b n rs.length fnv 0 H, b + 5 + rs.length, b + 5 + rs.length⟩) (by unfold c40_0; simp only [go_sem, Nat.reduceEqDiff]) bOld_get4
    (by simp only [bOld_set4]; exact hb) bOld_get4, bOld_set4]
end
end VE
end
section
set_option maxRecDepth 100000
namespace VE
open Go (IntKind)
section
variable {P : Prog} {L : Lib}
structure CellFn (P : Prog) (L : Lib) (b n : Nat) (fnv : AV) (val : Nat → Nat → AV) (Hs : Nat → Hp) : Prop where
  n1 : n ≤ 1000
  older : ∀ k, Older b fnv (Hs k)
  one : ∀ c r, oneCell (val c r) = true
  pu : ∀ c r, pureAV (val c r) = true
  call : ∀ c r, c < n → r < n → ∀ (mine : Hp) (ct : Nat), (∀ p, p ∈ mine → b ≤ p.1) → b ≤ ct → belowH ct ct mine → (oldRefs ct mine).length ≤ 5000 → evCall P L (D P L) (mine ++ Hs (r * n + c)) ct .dyn fnv [I64 c, I64 r] = some (val c r, mine ++ Hs (r * n + c + 1), ct)
def rowsAt (val : Nat → Nat → AV) (n r c : Nat) : List (List AV) := if c = 0 then rowsF val n r else rowc (.int .i64 0) val n r c :: rowsF val n r
theorem rowsAt_len {val : Nat → Nat → AV} {n r c : Nat} : (rowsAt val n r c).length = if c = 0 then r else r + 1 := by
  unfold rowsAt; split <;> simp [rowsF_len]
theorem rowsAt_succ {val : Nat → Nat → AV} {n r c : Nat} : rowsAt val n r (c + 1) = rowc (.int .i64 0) val n r (c + 1) :: rowsF val n r := by
  simp [rowsAt]
theorem rowsAt_full {val : Nat → Nat → AV} {n r : Nat} (hn : 0 < n) : rowsAt val n r n = rowsF val n (r + 1) := by
  rw [rowsAt, if_neg (by omega), rowc_full]; rfl
theorem rowsAt_zero {val : Nat → Nat → AV} {n r : Nat} : rowsAt val n r 0 = rowsF val n r := by simp [rowsAt]
theorem rowsR_ids {B : Nat} : ∀ {rs : List (List AV)} (p : Nat × Obj), p ∈ rowsR B rs → B ≤ p.1
  | [], p, h => by simp [rowsR] at h
  | c :: r, p, h => by
    rcases List.mem_cons.1 h with rfl | h
    · show B ≤ B + r.length; omega
    · exact rowsR_ids p h
theorem bOld_app {b n R st : Nat} {fnv : AV} {H : Hp} {rs : List (List AV)} : rowsR (b + 5) rs ++ bOld b n R fnv st H = (rowsR (b + 5) rs ++ bOld b n R fnv st []) ++ H := by
  rw [List.append_assoc]; rfl
theorem mine_ids {b n R st : Nat} {fnv : AV} {rs : List (List AV)} (p : Nat × Obj) (h : p ∈ rowsR (b + 5) rs ++ bOld b n R fnv st []) : b ≤ p.1 := by
  rcases List.mem_append.1 h with h | h
  · have := rowsR_ids p h; omega
  · simp only [bOld, List.mem_cons, List.not_mem_nil, or_false] at h
    rcases h with rfl | rfl | rfl | rfl | rfl <;> simp
theorem mine_below {b n R st : Nat} (hR : R ≤ n) {fnv : AV} {H : Hp} (ho : Older b fnv H) {rs : List (List AV)} (hl : rs.length = R) : belowH (b + 5 + R) (b + 5 + R) (rowsR (b + 5) rs ++ bOld b n R fnv st []) := by
  have hTMb : belowE (b + 4) (bTM b n fnv) := by
    have := below_mono (show b ≤ b + 4 by omega) ho.fv
    refine ⟨⟨trivial, trivial, trivial⟩, trivial, show b + 3 < b + 4 by omega, show b + 2 < b + 4 by omega, trivial, trivial, show b + 1 < b + 4 by omega, show b < b + 4 by omega, trivial, this, trivial⟩
  refine belowH_app (belowH_rows (by omega)) ⟨by omega, belowE_mono (by omega) hTMb, by omega, .inr ⟨show b + 2 < _ by omega, trivial⟩, by omega, .inr outc_below, by omega, .inr ⟨below_mono (by omega) ho.fv, trivial⟩, by omega, .inl rfl, trivial⟩
theorem mine_refs {b n R st ct : Nat} (hR : R ≤ n) (hn : n ≤ 1000) (hct : b + 5 ≤ ct) {fnv : AV} {H : Hp} (ho : Older b fnv H) {rs : List (List AV)} : (oldRefs ct (rowsR (b + 5) rs ++ bOld b n R fnv st [])).length ≤ 5000 := by
  have hTMr : (refsE (bTM b n fnv)).length ≤ 1010 := by
    have := ho.fl
    simp [bTM, refsE, refs, refsL]
    omega
  have hfl : (refsO (.cells true (pureAV fnv) true 1 [fnv])).length ≤ 1000 := by
    cases pureAV fnv with
    | true => simp [refsO]
    | false => simp [refsO, refsL]; exact ho.fl
  have hol : (refsO (.cells true (Nat.beq R 0) true 1 (outc (b + 5) n R))).length ≤ 1000 := by
    cases hq : Nat.beq R 0 with
    | true => simp [refsO]
    | false => simp only [refsO, cond_false, outc_refs, List.length_range']; omega
  rw [oldRefs_app, oldRefs_rowsR, List.nil_append]
  simp only [bOld, oldRefs, nblt_t (show b + 4 < ct by omega), nblt_t (show b + 3 < ct by omega), nblt_t (show b + 2 < ct by omega), nblt_t (show b + 1 < ct by omega), nblt_t (show b < ct by omega), cond_true, List.length_append, List.length_nil]
  have h3 : (refsO (.cells true false true 1 [AV.osl (b + 2) 0 n])).length = 1 := rfl
  have h0 : (refsO (.cells true true true 1 [AV.int .i64 n])).length = 0 := rfl
  have h4 : (refsO (.lp (bTM b n fnv) [12, 13] c40_0 c40_1 st .none)).length = (refsE (bTM b n fnv)).length := rfl
  rw [h3, h0, h4]
  omega
theorem cells_row {b n : Nat} {fnv : AV} {val : Nat → Nat → AV} {Hs : Nat → Hp} (hf : CellFn P L b n fnv val Hs) {r : Nat} (hr : r < n) :
    ∀ d st, (∃ c : Nat, compact [0, 1, 3, 5, 6, 9, 10] st = ⟨[(0, .fn (.y (b + 4)) [] []), (1, .vptr [.int .i64 n]), (3, I64 r), (5, I64 n), (6, I64 r), (9, I64 n), (10, I64 c)], rowsR (b + 5) (rowsAt val n r c) ++ bOld b n (rowsAt val n r c).length fnv 0 (Hs (r * n + c)), b + 5 + (rowsAt val n r c).length, b + 5⟩ ∧ c + d = n) →
      ∃ ex s', D P L (.loop [0, 1, 3, 5, 6, 9, 10] c133_0) st = some (ex, s') ∧ ∃ tm ct, s' = ⟨tm, rowsR (b + 5) (rowsAt val n r n) ++ bOld b n (rowsAt val n r n).length fnv 0 (Hs (r * n + n)), ct, b + 5⟩ ∧ ex = .exit 2 ∧ tget tm 0 = .fn (.y (b + 4)) [] [] ∧ tget tm 1 = .vptr [.int .i64 n] ∧ tget tm 5 = I64 n ∧ tget tm 6 = I64 r := by
  have n1 := hf.n1
  refine loop_can (I := fun d st => ∃ c : Nat, st = ⟨[(0, .fn (.y (b + 4)) [] []), (1, .vptr [.int .i64 n]), (3, I64 r), (5, I64 n), (6, I64 r), (9, I64 n), (10, I64 c)], rowsR (b + 5) (rowsAt val n r c) ++ bOld b n (rowsAt val n r c).length fnv 0 (Hs (r * n + c)), b + 5 + (rowsAt val n r c).length, b + 5⟩ ∧ c + d = n)
    (Q := fun ex s' => ∃ tm ct, s' = ⟨tm, rowsR (b + 5) (rowsAt val n r n) ++ bOld b n (rowsAt val n r n).length fnv 0 (Hs (r * n + n)), ct, b + 5⟩ ∧ ex = .exit 2 ∧ tget tm 0 = .fn (.y (b + 4)) [] [] ∧ tget tm 1 = .vptr [.int .i64 n] ∧ tget tm 5 = I64 n ∧ tget tm 6 = I64 r) ?_
  rintro d st ⟨c, rfl, hcd⟩
  by_cases hc : c < n
  · left
    have hround := built_round (P := P) (L := L) (b := b) hr hc n1 (hf.older 0).one (hf.one c r) (hf.pu c r) (H := Hs (r * n + c)) (H' := Hs (r * n + c + 1)) (prev := rowsF val n r) (rs := rowsAt val n r c) (rowsF_len val n r) rfl (fun cur => by
      have hl : (cur :: rowsF val n r).length = r + 1 := by rw [List.length_cons, rowsF_len]
      rw [bOld_app, hf.call c r hc hr _ _ mine_ids (by omega) (mine_below (by omega) (hf.older 0) hl) (mine_refs (by omega) n1 (by omega) (hf.older 0)), ← bOld_app])
    have hcall : ∀ (xs : List AV) (hp : Hp) (ct : Nat), evCall P L (D P L) hp ct .heap (.fn (.y (b + 4)) [] []) xs = evRound (D P L) hp ct (b + 4) xs := fun _ _ _ => rfl
    simp only [go_sem, Nat.reduceEqDiff, c133_0, show (c : Int) < n by omega, hcall, hround, show (c : Int) + 1 = ((c + 1 : Nat) : Int) from rfl, wrapN (n := c + 1) (by omega)]
    refine ⟨_, d - 1, rfl, by omega, c + 1, ?_, by omega⟩
    rw [← rowsAt_succ]
    have hlen : (rowsAt val n r (c + 1)).length = r + 1 := by rw [rowsAt_len, if_neg (by omega)]
    have hcan := fun (tm : Env) (ct : Nat) => compact_built (tm := tm) (ct := ct) (b := b) (n := n) (st := 0) (live := [0, 1, 3, 5, 6, 9, 10]) (rs := rowsAt val n r (c + 1)) (hf.older (r * n + c + 1)) (by omega) n1
    simp only [hlen] at hcan ⊢
    rw [hcan]
    · simp only [go_sem, Nat.reduceEqDiff]
      rfl
    · simp only [go_sem, Nat.reduceEqDiff]
      exact ⟨⟨by omega, rfl, rfl⟩, trivial, trivial, trivial, trivial, trivial, trivial, trivial⟩
    · simp only [go_sem, Nat.reduceEqDiff, Nat.reduceAdd, Nat.reduceLeDiff]
  · right
    have : c = n := by omega
    subst this
    simp only [go_sem, Nat.reduceEqDiff, c133_0, show ¬ (c : Int) < c by omega]
    refine ⟨_, _, rfl, by simp, _, _, rfl, rfl, ?_⟩
    simp only [go_sem, Nat.reduceEqDiff]
    simp
theorem cells_rows {b n : Nat} (hn : 0 < n) {fnv : AV} {val : Nat → Nat → AV} {Hs : Nat → Hp} (hf : CellFn P L b n fnv val Hs) :
    ∀ d st, (∃ r : Nat, compact [0, 1, 5, 6] st = ⟨[(0, .fn (.y (b + 4)) [] []), (1, .vptr [.int .i64 n]), (5, I64 n), (6, I64 r)], rowsR (b + 5) (rowsF val n r) ++ bOld b n (rowsF val n r).length fnv 0 (Hs (r * n)), b + 5 + (rowsF val n r).length, b + 5⟩ ∧ r + d = n) →
      ∃ ex s', D P L (.loop [0, 1, 5, 6] c133_1) st = some (ex, s') ∧ ∃ tm ct, s' = ⟨tm, rowsR (b + 5) (rowsF val n n) ++ bOld b n (rowsF val n n).length fnv 0 (Hs (n * n)), ct, b + 5⟩ ∧ ex = .exit 0 := by
  have n1 := hf.n1
  refine loop_can (I := fun d st => ∃ r : Nat, st = ⟨[(0, .fn (.y (b + 4)) [] []), (1, .vptr [.int .i64 n]), (5, I64 n), (6, I64 r)], rowsR (b + 5) (rowsF val n r) ++ bOld b n (rowsF val n r).length fnv 0 (Hs (r * n)), b + 5 + (rowsF val n r).length, b + 5⟩ ∧ r + d = n)
    (Q := fun ex s' => ∃ tm ct, s' = ⟨tm, rowsR (b + 5) (rowsF val n n) ++ bOld b n (rowsF val n n).length fnv 0 (Hs (n * n)), ct, b + 5⟩ ∧ ex = .exit 0) ?_
  rintro d st ⟨r, rfl, hrd⟩
  by_cases hr : r < n
  · left
    have hlen : (rowsF val n r).length = r := rowsF_len val n r
    have hlen1 : (rowsF val n (r + 1)).length = r + 1 := rowsF_len val n (r + 1)
    have hcan := fun (tm : Env) (ct : Nat) => compact_built (tm := tm) (ct := ct) (b := b) (n := n) (st := 0) (live := [0, 1, 3, 5, 6, 9, 10]) (rs := rowsF val n r) (hf.older (r * n)) (by omega) n1
    have hcan2 := fun (tm : Env) (ct : Nat) (live : List Nat) => compact_built (tm := tm) (ct := ct) (live := live) (b := b) (n := n) (st := 0) (rs := rowsF val n (r + 1)) (hf.older ((r + 1) * n)) (by omega) n1
    simp only [hlen] at hcan
    simp only [hlen1] at hcan2
    simp only [go_sem, Nat.reduceEqDiff, c133_1, show (r : Int) < n by omega, hlen]
    generalize hq : D P L (.loop [0, 1, 3, 5, 6, 9, 10] c133_0) _ = q
    obtain ⟨ex, st, rfl, tm, ct, rfl, rfl, g0, g1, g5, g6⟩ := of_key hq (cells_row hf hr n) ⟨0, by
      simp only [rowsAt_zero, hlen, Nat.add_zero]
      rw [hcan]
      · simp only [go_sem, Nat.reduceEqDiff]
        rfl
      · simp only [go_sem, Nat.reduceEqDiff]
        exact ⟨⟨by omega, rfl, rfl⟩, trivial, trivial, trivial, trivial, trivial, trivial, trivial⟩
      · simp only [go_sem, Nat.reduceEqDiff, Nat.reduceAdd, Nat.reduceLeDiff], by omega⟩
    simp only [rowsAt_full hn, hlen1, show r * n + n = (r + 1) * n by rw [Nat.add_mul, Nat.one_mul]]
    rw [bindB_h, bindN_n, D_kp, hcan2]
    · simp only [go_sem, Nat.reduceEqDiff, g0, g1, g5, g6, show (r : Int) + 1 = ((r + 1 : Nat) : Int) from rfl, wrapN (n := r + 1) (by omega)]
      refine ⟨_, d - 1, rfl, by omega, r + 1, ?_, by omega⟩
      rw [hlen1, hcan2]
      · simp only [go_sem, Nat.reduceEqDiff]
      · simp only [go_sem, Nat.reduceEqDiff]
        exact ⟨⟨by omega, rfl, rfl⟩, trivial, trivial, trivial, trivial⟩
      · simp only [go_sem, Nat.reduceEqDiff, Nat.reduceAdd, Nat.reduceLeDiff]
    · simp only [go_sem, g0, g1, g5, g6]
      exact ⟨⟨by omega, rfl, rfl⟩, trivial, trivial, trivial, trivial⟩
    · simp only [go_sem, Nat.reduceAdd, Nat.reduceLeDiff, g0, g1, g5, g6]
  · right
    have : r = n := by omega
    subst this
    simp only [go_sem, Nat.reduceEqDiff, c133_1, show ¬ (r : Int) < r by omega]
    exact ⟨_, _, rfl, by simp, _, _, rfl, rfl⟩
structure BuT (P : Prog) (L : Lib) : Prop where
  h40 : Has P L 40 c40
  h96 : Has P L 96 c96
  h133 : Has P L 133 c133
theorem s96 (h : BuT P L) (n : Int) : callPure P L (D P L) 96 [I64 n] = some (.fn (.f 133) [] [.vptr [I64 n]]) := by
  rw [call_eq h.h96]
  simp only [go_sem, Nat.reduceEqDiff, Nat.reduceAdd, c96]
  rfl
def bNew (b n : Nat) (fnv : AV) (val : Nat → Nat → AV) (H : Hp) : Hp :=
  rowsR (b + 5) (rowsF val n n) ++ (b + 3, .cells true false true 1 [.osl (b + 2) 0 n]) :: (b + 2, .cells true false true 1 (outc (b + 5) n n)) :: (b + 1, .cells true (pureAV fnv) true 1 [fnv]) :: (b, .cells true true true 1 [.int .i64 n]) :: H
theorem hdel_none {x : Nat} : ∀ {H : Hp}, (∀ p, p ∈ H → p.1 ≠ x) → hdel H x = H
  | [], _ => rfl
  | (id, o) :: r, h => by
    rw [hdel, nbeq_ne (h (id, o) (by simp)), cond_false, hdel_none (fun p hp => h p (by simp [hp]))]
theorem built_run (h : BuT P L) {b n : Nat} (hn : 0 < n) {fnv : AV} {val : Nat → Nat → AV} {Hs : Nat → Hp} (hf : CellFn P L b n fnv val Hs) (hb : ∀ p, p ∈ Hs (n * n) → p.1 < b) :
    ∃ tm ct, D P L c40.body ⟨[(0, I64 n), (1, fnv)], Hs 0, b, b⟩ = some (.ret, ⟨tm, bNew b n fnv val (Hs (n * n)), ct, b⟩) ∧ tget tm 4 = .osl (b + 2) 0 n := by
  have n1 := hf.n1
  have hone := (hf.older 0).one
  have hcells : cellsOf fnv = [fnv] := by cases fnv <;> simp_all [cellsOf, oneCell]
  have hmks : ∀ ct, mksV ct 1 24 [.nils] (some n) (some n) = some (.osl ct 0 n, .cells true true true 1 (List.replicate n .nils)) := fun ct => by
    rw [mksV_s (sz := 1) (by omega) (by omega) rfl rfl, flat_rep]; rfl
  have hout0 : outc (b + 5) n 0 = List.replicate n .nils := by simp [outc]
  have inner : ∃ tm ct, D P L c133.body ⟨bindArgs 0 [.fn (.y (b + 4)) [] [], .vptr [.int .i64 n]], (b + 4, .lp (bTM b n fnv) [12, 13] c40_0 c40_1 0 .none) :: (b + 3, .cells true false true 1 [.osl (b + 2) 0 n]) :: (b + 2, .cells true true true 1 (List.replicate n .nils)) :: (b + 1, .cells true (pureAV fnv) true 1 [fnv]) :: (b, .cells true true true 1 [.int .i64 n]) :: Hs 0, b + 5, b + 5⟩ =
      some (.normal, ⟨tm, rowsR (b + 5) (rowsF val n n) ++ bOld b n n fnv 0 (Hs (n * n)), ct, b + 5⟩) := by
    have hst : (b + 4, Obj.lp (bTM b n fnv) [12, 13] c40_0 c40_1 0 .none) :: (b + 3, .cells true false true 1 [.osl (b + 2) 0 n]) :: (b + 2, .cells true true true 1 (List.replicate n .nils)) :: (b + 1, .cells true (pureAV fnv) true 1 [fnv]) :: (b, .cells true true true 1 [.int .i64 n]) :: Hs 0 =
        rowsR (b + 5) [] ++ bOld b n 0 fnv 0 (Hs 0) := by
      simp only [rowsR, List.nil_append, bOld, hout0]; rfl
    rw [hst]
    simp only [go_sem, Nat.reduceEqDiff, c133]
    generalize hq : D P L (.loop [0, 1, 5, 6] c133_1) _ = q
    have hcan := fun (tm : Env) (ct : Nat) (live : List Nat) => compact_built (tm := tm) (ct := ct) (live := live) (b := b) (n := n) (st := 0) (rs := []) (hf.older 0) (by simp) n1
    simp only [List.length_nil] at hcan
    obtain ⟨ex, st, rfl, tm, ct, rfl, rfl⟩ := of_key hq (cells_rows hn hf n) ⟨0, by
      simp only [rowsF, List.length_nil, Nat.zero_mul]
      rw [hcan]
      · simp only [go_sem, Nat.reduceEqDiff]
        rfl
      · simp only [go_sem, Nat.reduceEqDiff]
        exact ⟨⟨by omega, rfl, rfl⟩, trivial, trivial, trivial, trivial⟩
      · simp only [go_sem, Nat.reduceEqDiff, Nat.reduceAdd, Nat.reduceLeDiff], by omega⟩
    have hlen : (rowsF val n n).length = n := rowsF_len val n n
    have hcan2 := fun (tm : Env) (ct : Nat) (live : List Nat) => compact_built (tm := tm) (ct := ct) (live := live) (b := b) (n := n) (st := 0) (rs := rowsF val n n) (hf.older (n * n)) (by omega) n1
    simp only [hlen] at hcan2 ⊢
    simp only [go_sem]
    rw [hcan2]
    · exact ⟨_, _, rfl⟩
    · simp only [go_sem]
      trivial
    · simp only [go_sem, Nat.reduceLeDiff]
  obtain ⟨tm, ct, inner⟩ := inner
  have hrf := rf_eq (P := P) (L := L) (f := .t 11) (ps := [12, 13]) (as_ := c40_0) (body := c40_1)
    (s := ⟨bTM b n fnv, (b + 3, .cells true false true 1 [.osl (b + 2) 0 n]) :: (b + 2, .cells true true true 1 (List.replicate n .nils)) :: (b + 1, .cells true (pureAV fnv) true 1 [fnv]) :: (b, .cells true true true 1 [.int .i64 n]) :: Hs 0, b + 4, b⟩)
    (n := 133) (first := []) (cap := [.vptr [.int .i64 n]]) rfl h.h133.heap (heap_eq h.h133 inner (.inl rfl) rfl) bOld_get4 (by decide)
  have hdl : hdel (rowsR (b + 5) (rowsF val n n) ++ bOld b n n fnv 0 (Hs (n * n))) (b + 4) = bNew b n fnv val (Hs (n * n)) := by
    rw [hdel_rows_old (by omega), bNew]
    simp only [bOld, hdel, Nat.beq_refl, cond_true, nbeq_ne (show b + 3 ≠ b + 4 by omega), nbeq_ne (show b + 2 ≠ b + 4 by omega), nbeq_ne (show b + 1 ≠ b + 4 by omega), nbeq_ne (show b ≠ b + 4 by omega), cond_false,
      hdel_none (fun p hp => by have := hb p hp; omega : ∀ p, p ∈ Hs (n * n) → p.1 ≠ b + 4), nbeq_ne (show n ≠ 0 by omega)]
  have hg3 : hget (bNew b n fnv val (Hs (n * n))) (b + 3) = some (.cells true false true 1 [.osl (b + 2) 0 n]) := by
    rw [bNew, hget_rows_old (by omega), hget, Nat.beq_refl, cond_true]
  simp only [bTM] at hrf
  simp only [go_sem, Nat.reduceEqDiff, Nat.reduceAdd, c40, hcells, boxV1 hone, hmks, s96 h, Nat.add_assoc, hrf, show ¬ b + 1 = b by omega, show ¬ b + 2 = b by omega, show ¬ b + 3 = b by omega]
  simp only [go_sem, hdl, hg3]
  exact ⟨_, _, rfl, by simp only [go_sem]⟩
theorem hget_hset' {hp : Hp} {id i : Nat} {o : Obj} : hget (hset hp id o) i = if id = i then (if (hget hp id).isSome then some o else none) else hget hp i := by
  induction hp with
  | nil => simp [hset, hget]
  | cons x r ih =>
    obtain ⟨j, q⟩ := x
    simp only [hset]
    by_cases hj : j = id
    · subst hj
      simp only [Nat.beq_refl, cond_true, hget]
      by_cases hi : j = i
      · subst hi; simp
      · simp [nbeq_ne hi, hi]
    · simp only [nbeq_ne hj, cond_false]
      rw [hget, ih]
      by_cases hi : j = i
      · subst hi
        have : ¬ id = j := fun h => hj h.symm
        simp [Nat.beq_refl, this, hget]
      · simp [nbeq_ne hi, hget, nbeq_ne hj]
theorem frz_rows {B n : Nat} {row : Nat → List AV} (hlen : ∀ i, (row i).length = n) : ∀ (l : List Nat) (k : Nat) (hp : Hp), l.length + 3 ≤ k → (∀ i, i ∈ l → ∃ rw, hget hp (B + i) = some (.cells rw true true 1 (row i))) →
    ∃ hp', freezeL k hp (l.map fun i => .osl (B + i) 0 n) = some (l.map fun i => .vsl true n (row i), hp')
  | [], 0, hp, hk, _ => by simp at hk
  | [], k + 1, hp, _, _ => ⟨hp, rfl⟩
  | i :: l, 0, hp, hk, _ => by simp at hk
  | i :: l, 1, hp, hk, _ => by simp at hk
  | i :: l, 2, hp, hk, _ => by simp at hk
  | i :: l, k + 3, hp, hk, h => by
    simp only [List.length_cons] at hk
    obtain ⟨rw, h1⟩ := h i (by simp)
    have hf : freeze (k + 2) hp (.osl (B + i) 0 n) = some (.vsl true n (row i), bif rw then hset hp (B + i) (.cells false true true 1 (row i)) else hp) := by
      rw [frz_osl, frz_blk, h1]
      cases rw with
      | true => rw [frzQ_t, frzO_all true (by rw [hlen, Nat.mul_one]) (by decide)]; rfl
      | false => rw [frzQ_f, frzO_all true (by rw [hlen, Nat.mul_one]) (by decide)]; rfl
    obtain ⟨hp', h2⟩ := frz_rows hlen l (k + 2) (bif rw then hset hp (B + i) (.cells false true true 1 (row i)) else hp) (by omega) (fun j hj => by
      obtain ⟨rw', h3⟩ := h j (by simp [hj])
      cases rw with
      | false => exact ⟨rw', h3⟩
      | true =>
        simp only [cond_true, hget_hset', h1, Option.isSome_some, if_true]
        by_cases e : B + i = B + j
        · have : i = j := by omega
          subst this
          exact ⟨false, by rw [if_pos rfl]⟩
        · exact ⟨rw', by rw [if_neg e, h3]⟩)
    exact ⟨hp', by rw [List.map_cons, frzL_cons, hf, frzC_s, h2]; rfl⟩
def tblV (val : Nat → Nat → AV) (n : Nat) : AV := .vsl true n ((List.range n).map fun r => .vsl true n ((List.range n).map fun c => val c r))
theorem rowsF_rev {val : Nat → Nat → AV} {n : Nat} : ∀ r, (rowsF val n r).reverse = (List.range r).map fun r => (List.range n).map fun c => val c r
  | 0 => rfl
  | r + 1 => by rw [rowsF, List.reverse_cons, rowsF_rev r, List.range_succ, List.map_append]; rfl
theorem built_frz {b n k : Nat} (hn : 0 < n) (hn1 : n ≤ 900) {fnv : AV} {val : Nat → Nat → AV} {H : Hp} (hk : 903 < k) : ∃ hp', freeze (k + 2) (bNew b n fnv val H) (.osl (b + 2) 0 n) = some (tblV val n, hp') := by
  have hg2 : hget (bNew b n fnv val H) (b + 2) = some (.cells true false true 1 (outc (b + 5) n n)) := by
    rw [bNew, hget_rows_old (by omega), hget, nbeq_ne (by omega), cond_false, hget, Nat.beq_refl, cond_true]
  have hout : outc (b + 5) n n = (List.range n).map fun i => .osl (b + 5 + i) 0 n := by simp [outc]
  have hlen : (rowsF val n n).length = n := rowsF_len val n n
  obtain ⟨hp', h1⟩ := frz_rows (B := b + 5) (n := n) (row := fun r => (List.range n).map fun c => val c r) (fun i => by simp) (List.range n) k (bNew b n fnv val H) (by simp; omega) (fun i hi => by
    have hi' : i < n := List.mem_range.1 hi
    refine ⟨true, ?_⟩
    rw [bNew, hget_rows (by omega)]
    simp only [rowsF_rev, List.getElem_map, List.getElem_range])
  rw [frz_osl, frz_blk, hg2]
  have hq : frzQ k (b + 2) (bNew b n fnv val H) (some (.cells true false true 1 (outc (b + 5) n n))) = some (true, 1, (List.range n).map fun r => .vsl true n ((List.range n).map fun c => val c r), hset hp' (b + 2) (.cells false false true 1 (outc (b + 5) n n))) := by
    simp only [frzQ, cond_false, hout, h1]
  rw [hq, frzO_all true (by simp) (by decide)]
  exact ⟨_, rfl⟩
theorem built_res {b n : Nat} (hn : 0 < n) (hn1 : n ≤ 900) {fnv : AV} {val : Nat → Nat → AV} {H : Hp} : result (bNew b n fnv val H) (.osl (b + 2) 0 n) = some (tblV val n) := by
  have hg2 : hget (bNew b n fnv val H) (b + 2) = some (.cells true false true 1 (outc (b + 5) n n)) := by
    rw [bNew, hget_rows_old (by omega), hget, nbeq_ne (by omega), cond_false, hget, Nat.beq_refl, cond_true]
  obtain ⟨hp', h⟩ := built_frz (b := b) (k := 998) hn hn1 (fnv := fnv) (val := val) (H := H) (by omega)
  simp only [result, fresh1, hg2, deep, h]
end
end VE
end
