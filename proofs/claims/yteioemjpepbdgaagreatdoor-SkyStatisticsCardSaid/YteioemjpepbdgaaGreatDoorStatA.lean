import Derived.Test.YteioemjpepbdgaaGreatDoorNumB
import Derived.Test.YteioemjpepbdgaaGreatDoorSkyC
set_option linter.all false
set_option maxRecDepth 100000
namespace VE
open Go (IntKind)
section
variable {P : Prog} {L : Lib}
def sq2 (n : Nat) (val : Nat → Nat → Int) : Int := psum (fun r => psum (fun c => val c r) n) n
theorem psum_b {f : Nat → Int} {b : Int} {n : Nat} (hb : 0 ≤ b) (h : ∀ k, k < n → -b ≤ f k ∧ f k ≤ b) : ∀ m, m ≤ n → -(b * m) ≤ psum f m ∧ psum f m ≤ b * m
  | 0, _ => by simp [psum]
  | m + 1, hm => by
    have ih := psum_b hb h m (by omega)
    have hk := h m (by omega)
    simp only [psum]
    rw [show ((m + 1 : Nat) : Int) = (m : Int) + 1 by omega, Int.mul_add, Int.mul_one]
    omega
theorem psum_last {f : Nat → Int} {n : Nat} (h : 0 < n) : psum f n = psum f (n - 1) + f (n - 1) := by
  cases n with
  | zero => omega
  | succ n => rfl
theorem s45 (h : BuT P L) (h45 : Has P L 45 c45) (na : Na P L) {n : Nat} (hn0 : 0 < n) (hn1 : n ≤ 16) {g : Nat} {cap : List AV} {val : Nat → Nat → Int} (hc : pureL cap = true) (hfz : ∀ hp, freezeL 998 hp cap = some (cap, hp))
    (hb : ∀ c r, c < n → r < n → -4000000 ≤ val c r ∧ val c r ≤ 4000000) (hg : ∀ c r : Nat, c < n → r < n → Ans P L g (I64 c :: I64 r :: cap) (I64 (val c r))) :
    Ans P L 45 [I64 n, .fn (.f g) [] cap] (frac (sq2 n val) (n * n)) := by
  let F : AV := .fn (.f g) [] cap
  have hpf : pureAV F = true := by simp [F, pureAV, pureL, hc]
  let TM : Env := [(9, .fn (.f 133) [] [.vptr [.int .i64 n]]), (8, I64 n), (5, .ptr 2 0), (4, .ptr 1 0), (3, .ptr 0 0), (0, I64 n), (1, F)]
  let S : Nat → Nat → Int := fun j i => psum (fun r => psum (fun c => val c r) n) j + psum (fun c => val c j) i
  let HH : Nat → Nat → Nat → Hp := fun st j i => [(3, .lp TM [10, 11] c45_0 c45_1 st .none), (2, .cells true true true 1 [I64 (S j i)]), (1, .cells true true true 4 [.int .i64 0, .nils, .int .i64 0, .nils]), (0, .cells true true true 1 [F])]
  have hbl : ∀ st j i, belowH 4 4 (HH st j i) := fun st j i => by
    refine ⟨by omega, ⟨⟨trivial, trivial, trivial⟩, trivial, show 2 < 4 by omega, show 1 < 4 by omega, show 0 < 4 by omega, trivial, below_pure hpf, trivial⟩, by omega, .inl rfl, by omega, .inl rfl, by omega, .inl rfl, trivial⟩
  have hrf : ∀ st j i, (oldRefs 4 (HH st j i)).length ≤ 5000 := fun st j i => by
    have : oldRefs 4 (HH st j i) = refsE TM := by
      simp only [HH, oldRefs, nblt_t (show 3 < 4 by omega), nblt_t (show 2 < 4 by omega), nblt_t (show 1 < 4 by omega), nblt_t (show 0 < 4 by omega), cond_true, refsO, List.append_nil]
    rw [this]
    simp [TM, refsE, refs, refsL, refs_pure hpf]
  have hSb : ∀ i j, i ≤ n → j < n → -2000000000 ≤ S j i ∧ S j i ≤ 2000000000 := fun i j hi hj => by
    have r1 : ∀ r, r < n → -64000000 ≤ psum (fun c => val c r) n ∧ psum (fun c => val c r) n ≤ 64000000 := fun r hr => by
      have := psum_b (b := 4000000) (by decide) (fun c hc => hb c r hc hr) n (Nat.le_refl n)
      omega
    have r2 := psum_b (b := 64000000) (by decide) r1 j (by omega)
    have r3 := psum_b (b := 4000000) (by decide) (fun c hc => hb c j hc hj) i hi
    simp only [S]
    omega
  have hround : ∀ i j, i < n → j < n → evRound (D P L) (HH 0 j i) 4 3 [I64 i, I64 j] = some (.bool true, HH 0 j (i + 1), 4) := fun i j hi hj => by
    have hcell := hg i j hi hj
    have hv := hb i j hi hj
    have hS : S j (i + 1) = S j i + val i j := by simp only [S, psum, Int.add_assoc]
    have hS0 := hSb i j (by omega) hj
    unfold Ans at hcell
    have hbody : ∃ tm, D P L c45_1 ⟨(7, I64 j) :: (6, I64 i) :: (11, I64 j) :: (10, I64 i) :: TM, HH 1 j i, 4, 4⟩ = some (.normal, ⟨tm, HH 1 j (i + 1), 4, 4⟩) := by
      simp only [HH, hS]
      generalize S j i = sm at hS0
      simp only [TM, F]
      simp only [go_sem, Nat.reduceEqDiff, c45_1, hcell, wrap64 (n := sm + val i j) (by omega) (by omega), List.nil_append, List.cons_append, hfz]
      exact ⟨_, rfl⟩
    obtain ⟨tm, hbody⟩ := hbody
    exact round_eq (tm' := (11, I64 j) :: (10, I64 i) :: TM) (show hget (HH 0 j i) 3 = some (.lp TM [10, 11] c45_0 c45_1 0 .none) from rfl) rfl (s1 := ⟨(7, I64 j) :: (6, I64 i) :: (11, I64 j) :: (10, I64 i) :: TM, HH 0 j i, 4, 4⟩) (by unfold c45_0; simp only [go_sem, Nat.reduceEqDiff]) rfl hbody rfl
  have hgen := cells_gen (P := P) (L := L) h (l := 3) (B := 4) (n := n) (by omega) (by omega) (H := HH 0) (fun j hj => by simp only [HH, S, psum, Int.add_zero]) (hbl 0) (hrf 0) hround
  obtain ⟨tm, hgen⟩ := hgen
  have hrf' := rf_eq (P := P) (L := L) (f := .t 9) (ps := [10, 11]) (as_ := c45_0) (body := c45_1)
    (s := ⟨TM, [(2, .cells true true true 1 [I64 (S 0 0)]), (1, .cells true true true 4 [.int .i64 0, .nils, .int .i64 0, .nils]), (0, .cells true true true 1 [F])], 3, 0⟩)
    (n := 133) (first := []) (cap := [.vptr [.int .i64 n]]) rfl h.h133.heap (heap_eq h.h133 hgen (.inl rfl) rfl) (by rfl) (by decide)
  have hd : hdel (HH 0 n 0) 3 = [(2, .cells true true true 1 [I64 (sq2 n val)]), (1, .cells true true true 4 [.int .i64 0, .nils, .int .i64 0, .nils]), (0, .cells true true true 1 [F])] := by
    have : S n 0 = sq2 n val := by simp only [S, psum, Int.add_zero]; rfl
    simp only [HH, this]; rfl
  have h00 : S 0 0 = 0 := by simp [S, psum]
  have hT : -2000000000 ≤ sq2 n val ∧ sq2 n val ≤ 2000000000 := by
    have := hSb n (n - 1) (Nat.le_refl n) (by omega)
    have e : S (n - 1) n = sq2 n val := by
      exact (psum_last (f := fun r => psum (fun c => val c r) n) hn0).symm
    rw [e] at this
    exact this
  simp only [TM, F, h00, hd] at hrf'
  have hnn : (n : Int) * n ≤ 256 ∧ 0 < (n : Int) * n := by
    have e : (n : Int) * n = ((n * n : Nat) : Int) := (Int.natCast_mul _ _).symm
    have h1 : n * n ≤ 16 * 16 := Nat.mul_le_mul hn1 hn1
    have h2 : 0 < n * n := Nat.mul_pos hn0 hn0
    omega
  have e1 := n69 na (sq2 n val)
  have e2 := n69 na ((n : Int) * n)
  have e3 := n70 na (a := sq2 n val) (c := (n : Int) * n) (by omega) (by omega)
  unfold Ans at e1 e2 e3 ⊢
  rw [call_eq h45]
  simp only [go_sem, Nat.reduceEqDiff, Nat.reduceAdd, c45, boxV_n, s96 h, hc, hrf', e1, e2, e3, wrap64 (n := (n : Int) * n) (by omega) (by omega), frz_agg0, shut_agg, stC_Fq]
  rfl
theorem n44 (h : Has P L 44 c44) {v : AV} {s : List (List Int)} (hv : IsS v s) {n : Nat} (hn : s.length = n) (hr : ∀ i (hi : i < s.length), s[i].length = n) {c r : Nat} (hc : c < n) (hr' : r < n) : Ans P L 44 [I64 c, I64 r, .vptr [v]] (I64 (kv s r c)) := by
  have h1 : r < s.length := by omega
  obtain ⟨w, rest, w1, w2⟩ := hv.ixa h1
  have h2 : c < s[r].length := by rw [hr r h1]; exact hc
  have e := w1.ixa h2
  rw [kv_get h1 h2] at e
  unfold Ans; rw [call_eq h]
  simp only [go_sem, Nat.reduceEqDiff, c44, w2, e]
theorem n47 (h : Has P L 47 c47) {v : AV} {s : List (List Int)} (hv : IsS v s) {n : Nat} (hn : s.length = n) (hr : ∀ i (hi : i < s.length), s[i].length = n) {c r : Nat} (hc : c < n) (hr' : r < n) : Ans P L 47 [I64 c, I64 r, .vptr [v]] (I64 (kv s r c)) := by
  have h1 : r < s.length := by omega
  obtain ⟨w, rest, w1, w2⟩ := hv.ixa h1
  have h2 : c < s[r].length := by rw [hr r h1]; exact hc
  have e := w1.ixa h2
  rw [kv_get h1 h2] at e
  unfold Ans; rw [call_eq h]
  simp only [go_sem, Nat.reduceEqDiff, c47, w2, e]
theorem n48 (h : Has P L 48 c48) {v : AV} {s : List (List Int)} (hv : IsS v s) {n : Nat} (hn : s.length = n) (hr : ∀ i (hi : i < s.length), s[i].length = n) {c r : Nat} (hc : c < n) (hr' : r < n) (hb : -1000 ≤ kv s r c ∧ kv s r c ≤ 1000) : Ans P L 48 [I64 c, I64 r, .vptr [v]] (I64 (kv s r c * kv s r c)) := by
  have h1 : r < s.length := by omega
  obtain ⟨w, rest, w1, w2⟩ := hv.ixa h1
  have h2 : c < s[r].length := by rw [hr r h1]; exact hc
  have e := w1.ixa h2
  rw [kv_get h1 h2] at e
  have hm := mul_bound (a := 1000) (b := 1000) hb hb
  unfold Ans; rw [call_eq h]
  simp only [go_sem, Nat.reduceEqDiff, c48, w2, e, wrap64 (n := kv s r c * kv s r c) (by omega) (by omega)]
def sdiff (s : List (List Int)) (a b : Int) (c r : Nat) : Int := (cellI s (c + a) (r + b) - kv s r c) * (cellI s (c + a) (r + b) - kv s r c)
theorem n52 (h : Has P L 52 c52) (h97 : Has P L 97 c97) (h134 : Has P L 134 c134) {v : AV} {s : List (List Int)} (hv : IsS v s) {n : Nat} (hn : s.length = n) (h0 : 0 < n) (hl : n ≤ 16) (hs : sqChk n (-1000) 1000 s = 0) {a b : Int} (ha : chkFrm a = 0) (hb : chkFrm b = 0) {c r : Nat} (hc : c < n) (hr' : r < n) :
    Ans P L 52 [I64 c, I64 r, .vptr [v], .vptr [I64 a], .vptr [I64 b]] (I64 (sdiff s a b c r)) := by
  have ha : -999999999 ≤ a ∧ a ≤ 999999999 := by unfold chkFrm at ha; split at ha <;> omega
  have hb : -999999999 ≤ b ∧ b ≤ 999999999 := by unfold chkFrm at hb; split at hb <;> omega
  have hr : ∀ i (hi : i < s.length), s[i].length = n := fun i hi => (sqChk_get hs i hi).1
  have h1 : r < s.length := by omega
  obtain ⟨w, rest, w1, w2⟩ := hv.ixa h1
  have h2 : c < s[r].length := by rw [hr r h1]; exact hc
  have e := w1.ixa h2
  rw [kv_get h1 h2] at e
  have b1 := kv_bound hs (by decide) r c
  have b2 := cellI_bound hs (by decide) ((c : Int) + a) ((r : Int) + b)
  have e97 := s97 h97 h134 hv hn h0 (by omega) hr ((c : Int) + a) ((r : Int) + b)
  have hm := mul_bound (a := 2000) (b := 2000) (x := cellI s (c + a) (r + b) - kv s r c) (y := cellI s (c + a) (r + b) - kv s r c) (by omega) (by omega)
  unfold Ans at e97 ⊢; rw [call_eq h]
  simp only [go_sem, Nat.reduceEqDiff, c52, hv.frz, wrap64 (n := (c : Int) + a) (by omega) (by omega), wrap64 (n := (r : Int) + b) (by omega) (by omega), e97, w2, e, wrap64 (n := cellI s ((c : Int) + a) ((r : Int) + b) - kv s r c) (by omega) (by omega), wrap64 (n := (cellI s ((c : Int) + a) ((r : Int) + b) - kv s r c) * (cellI s ((c : Int) + a) ((r : Int) + b) - kv s r c)) (by omega) (by omega)]
  rfl
structure StP (P : Prog) (L : Lib) : Prop extends ShP P L where
  na : Na P L
  h16 : Has P L 16 c16
  h17 : Has P L 17 c17
  h18 : Has P L 18 c18
  h44 : Has P L 44 c44
  h45 : Has P L 45 c45
  h47 : Has P L 47 c47
  h48 : Has P L 48 c48
  h52 : Has P L 52 c52
def sum1 (s : List (List Int)) : Int := sq2 s.length (fun c r => kv s r c)
def sum2 (s : List (List Int)) : Int := sq2 s.length (fun c r => kv s r c * kv s r c)
def sumD (s : List (List Int)) (a b : Int) : Int := sq2 s.length (sdiff s a b)
abbrev area (s : List (List Int)) : Int := (s.length : Int) * s.length
theorem sq2_bound {n : Nat} {val : Nat → Nat → Int} (hn : n ≤ 16) {b : Int} (hb0 : 0 ≤ b) (hb1 : b ≤ 4000000) (hb : ∀ c r, c < n → r < n → -b ≤ val c r ∧ val c r ≤ b) : -(b * 256) ≤ sq2 n val ∧ sq2 n val ≤ b * 256 := by
  have r1 : ∀ r, r < n → -(b * 16) ≤ psum (fun c => val c r) n ∧ psum (fun c => val c r) n ≤ b * 16 := fun r hr => by
    have := psum_b hb0 (fun c hc => hb c r hc hr) n (Nat.le_refl n)
    have : b * (n : Int) ≤ b * 16 := Int.mul_le_mul_of_nonneg_left (by omega) hb0
    omega
  have r2 := psum_b (b := b * 16) (by omega) r1 n (Nat.le_refl n)
  have : b * 16 * (n : Int) ≤ b * 16 * 16 := Int.mul_le_mul_of_nonneg_left (by omega) (by omega)
  unfold sq2
  omega
theorem area_bound {s : List (List Int)} (h0 : 0 < s.length) (h1 : s.length ≤ 16) : 0 < area s ∧ area s ≤ 256 := by
  have e : area s = ((s.length * s.length : Nat) : Int) := (Int.natCast_mul _ _).symm
  have h1 : s.length * s.length ≤ 16 * 16 := Nat.mul_le_mul h1 h1
  have h2 : 0 < s.length * s.length := Nat.mul_pos h0 h0
  omega
theorem n16 (h : StP P L) {v : AV} {s : List (List Int)} (hv : IsS v s) (hl : s.length ≤ 1000000) (hr : ∀ i (hi : i < s.length), s[i].length ≤ 1000000) :
    Ans P L 16 [v] (.tup [.str (if chkScreen s = 0 then ratT (sum1 s) (area s) else []), I64 (chkScreen s)]) := by
  have e4 := s4 h.toSq hv hl hr
  unfold Ans at e4 ⊢
  by_cases hz : chkScreen s = 0
  · obtain ⟨a1, a2, a3⟩ := chkScreen_ok hz
    have hb : ∀ c r, -1000 ≤ kv s r c ∧ kv s r c ≤ 1000 := fun c r => kv_bound a3 (by decide) r c
    have e45 := s45 h.toBuT h.h45 h.na a1 a2 (g := 44) (cap := [.vptr [v]]) (val := fun c r => kv s r c) (by simp [pureL, pureAV]) (fun hp => rfl) (fun c r _ _ => by have := hb c r; omega) (fun c r hc hr => n44 h.h44 hv rfl (fun i hi => (sqChk_get a3 i hi).1) hc hr)
    have bs := sq2_bound a2 (b := 1000) (by decide) (by decide) (val := fun c r => kv s r c) (fun c r _ _ => hb c r)
    have ba := area_bound a1 a2
    have e46 := n46 h.na (a := sum1 s) (b := area s) (by unfold sum1; omega) (by omega)
    unfold Ans at e45 e46
    rw [if_pos hz, call_eq h.h16]
    rw [hz] at e4 ⊢
    simp only [go_sem, Nat.reduceEqDiff, Nat.reduceAdd, c16, hv.len, hv.pu, hv.frz, hv.one, hv.cells, e4, decide_true, Bool.not_true, e45, shut_agg, frz_agg0, show sq2 s.length (fun c r => kv s r c) = sum1 s from rfl, show (s.length : Int) * (s.length : Int) = area s from rfl, e46]
    rfl
  · rw [if_neg hz, call_eq h.h16]
    simp only [go_sem, Nat.reduceEqDiff, Nat.reduceAdd, c16, hv.pu, hv.frz, hv.one, hv.cells, e4, hz]
    rfl
abbrev vnum (s : List (List Int)) : Int := sum2 s * (area s * area s) - sum1 s * sum1 s * area s
abbrev vden (s : List (List Int)) : Int := area s * (area s * area s)
theorem n17 (h : StP P L) {v : AV} {s : List (List Int)} (hv : IsS v s) (hl : s.length ≤ 1000000) (hr : ∀ i (hi : i < s.length), s[i].length ≤ 1000000) :
    Ans P L 17 [v] (.tup [.str (if chkScreen s = 0 then ratT (vnum s) (vden s) else []), I64 (chkScreen s)]) := by
  have e4 := s4 h.toSq hv hl hr
  unfold Ans at e4 ⊢
  by_cases hz : chkScreen s = 0
  · obtain ⟨a1, a2, a3⟩ := chkScreen_ok hz
    have hb : ∀ c r, -1000 ≤ kv s r c ∧ kv s r c ≤ 1000 := fun c r => kv_bound a3 (by decide) r c
    have hb2 : ∀ c r, -1000000 ≤ kv s r c * kv s r c ∧ kv s r c * kv s r c ≤ 1000000 := fun c r => mul_bound (a := 1000) (b := 1000) (hb c r) (hb c r)
    have e45 := s45 h.toBuT h.h45 h.na a1 a2 (g := 47) (cap := [.vptr [v]]) (val := fun c r => kv s r c) (by simp [pureL, pureAV]) (fun hp => rfl) (fun c r _ _ => by have := hb c r; omega) (fun c r hc hr => n47 h.h47 hv rfl (fun i hi => (sqChk_get a3 i hi).1) hc hr)
    have f45 := s45 h.toBuT h.h45 h.na a1 a2 (g := 48) (cap := [.vptr [v]]) (val := fun c r => kv s r c * kv s r c) (by simp [pureL, pureAV]) (fun hp => rfl) (fun c r _ _ => by have := hb2 c r; omega) (fun c r hc hr => n48 h.h48 hv rfl (fun i hi => (sqChk_get a3 i hi).1) hc hr (hb c r))
    have b1 := sq2_bound a2 (b := 1000) (by decide) (by decide) (val := fun c r => kv s r c) (fun c r _ _ => hb c r)
    have b2 := sq2_bound a2 (b := 1000000) (by decide) (by decide) (val := fun c r => kv s r c * kv s r c) (fun c r _ _ => hb2 c r)
    rw [show sq2 s.length (fun c r => kv s r c) = sum1 s from rfl, show (s.length : Int) * (s.length : Int) = area s from rfl] at e45
    rw [show sq2 s.length (fun c r => kv s r c * kv s r c) = sum2 s from rfl, show (s.length : Int) * (s.length : Int) = area s from rfl] at f45
    rw [show sq2 s.length (fun c r => kv s r c) = sum1 s from rfl] at b1
    rw [show sq2 s.length (fun c r => kv s r c * kv s r c) = sum2 s from rfl] at b2
    have ba := area_bound a1 a2
    have n1 : (sum1 s).natAbs ≤ 256000 := by omega
    have n2 : (sum2 s).natAbs ≤ 256000000 := by omega
    have n3 : (area s).natAbs ≤ 256 := by omega
    have m11 : (sum1 s * sum1 s).natAbs ≤ 65536000000 := by rw [Int.natAbs_mul]; exact Nat.mul_le_mul n1 n1
    have m33 : (area s * area s).natAbs ≤ 65536 := by rw [Int.natAbs_mul]; exact Nat.mul_le_mul n3 n3
    have p33 : 0 < area s * area s := Int.mul_pos ba.1 ba.1
    have g1 : (sum2 s).natAbs * (area s * area s).natAbs ≤ 256000000 * 65536 := Nat.mul_le_mul n2 m33
    have g2 : (sum1 s * sum1 s).natAbs * (area s).natAbs ≤ 65536000000 * 256 := Nat.mul_le_mul m11 n3
    have g3 : (area s).natAbs * (area s * area s).natAbs ≤ 256 * 65536 := Nat.mul_le_mul n3 m33
    have e49 := n49' h.na (a := sum1 s) (b := area s) (c := sum1 s) (d := area s) ba.1 ba.1 (by have := Nat.mul_le_mul n1 n1; omega) (by have := Nat.mul_le_mul n3 n3; omega) (by omega) (by omega) (by omega) (by omega)
    have e50 := n50 h.na (a := sum2 s) (b := area s) (c := sum1 s * sum1 s) (d := area s * area s) ba.1 p33 (by omega) (by omega) (by omega) (by omega) (by omega) (by omega) (by omega)
    have q1 : (vnum s).natAbs < 4611686018427387904 := by
      have x1 : (sum2 s * (area s * area s)).natAbs ≤ 256000000 * 65536 := by rw [Int.natAbs_mul]; exact g1
      have x2 : (sum1 s * sum1 s * area s).natAbs ≤ 65536000000 * 256 := by rw [Int.natAbs_mul]; exact g2
      have := Int.natAbs_sub_le (sum2 s * (area s * area s)) (sum1 s * sum1 s * area s)
      unfold vnum
      omega
    have q2 : 0 < vden s ∧ vden s < 4611686018427387904 := by
      have x1 := Int.mul_pos ba.1 p33
      have x2 : (vden s).natAbs ≤ 256 * 65536 := by unfold vden; rw [Int.natAbs_mul]; exact g3
      refine ⟨x1, ?_⟩
      omega
    have e46 := n46 h.na (a := vnum s) (b := vden s) q1 q2
    unfold Ans at e45 f45 e49 e50 e46
    rw [if_pos hz, call_eq h.h17]
    rw [hz] at e4 ⊢
    simp only [go_sem, Nat.reduceEqDiff, Nat.reduceAdd, c17, hv.len, hv.pu, hv.frz, hv.one, hv.cells, boxV_n, e4, decide_true, Bool.not_true, e45, f45, shut_agg, frz_agg0, stC_Fq, ld1_4, e49, e50, e46]
    rfl
  · rw [if_neg hz, call_eq h.h17]
    simp only [go_sem, Nat.reduceEqDiff, Nat.reduceAdd, c17, hv.pu, hv.frz, hv.one, hv.cells, e4, hz]
    rfl
theorem n18 (h : StP P L) {v : AV} {s : List (List Int)} (hv : IsS v s) (hl : s.length ≤ 1000000) (hr : ∀ i (hi : i < s.length), s[i].length ≤ 1000000) (a b : Int) :
    Ans P L 18 [v, I64 a, I64 b] (.tup [.str (if firstI [chkScreen s, chkFrm a, chkFrm b] = 0 then ratT (sumD s a b) (area s) else []), I64 (firstI [chkScreen s, chkFrm a, chkFrm b])]) := by
  have e4 := s4 h.toSq hv hl hr
  have hf3 : ∀ a b c : Int, Ans P L 33 [.vsl true 3 [.int .i64 a, .int .i64 b, .int .i64 c]] (I64 (firstI [a, b, c])) := fun a b c => s33 h.h33 (isI_vsl true [a, b, c]) (by simp)
  have e51 := fun n => s51 h.h51 h.h34 h.h31 n
  unfold Ans at e4 hf3 e51 ⊢
  by_cases h0 : firstI [chkScreen s, chkFrm a, chkFrm b] = 0
  · have hs0 : chkScreen s = 0 := by
      simp only [firstI] at h0
      split at h0
      · assumption
      · assumption
    have ha0 : chkFrm a = 0 := by
      simp only [firstI, hs0, if_true] at h0
      split at h0
      · assumption
      · assumption
    have hb0 : chkFrm b = 0 := by
      simp only [firstI, hs0, ha0, if_true] at h0
      split at h0
      · assumption
      · assumption
    obtain ⟨a1, a2, a3⟩ := chkScreen_ok hs0
    have hb : ∀ c r : Nat, -4000000 ≤ sdiff s a b c r ∧ sdiff s a b c r ≤ 4000000 := fun c r => by
      have b1 := kv_bound a3 (by decide) r c
      have b2 := cellI_bound a3 (by decide) ((c : Int) + a) ((r : Int) + b)
      exact mul_bound (a := 2000) (b := 2000) (x := cellI s (c + a) (r + b) - kv s r c) (y := cellI s (c + a) (r + b) - kv s r c) (by omega) (by omega)
    have e45 := s45 h.toBuT h.h45 h.na a1 a2 (g := 52) (cap := [.vptr [v], .vptr [I64 a], .vptr [I64 b]]) (val := sdiff s a b) (by simp [pureL, pureAV]) (fun hp => rfl) (fun c r _ _ => hb c r) (fun c r hc hr => n52 h.h52 h.h97 h.h134 hv rfl a1 a2 a3 ha0 hb0 hc hr)
    have b1 := sq2_bound a2 (b := 4000000) (by decide) (by decide) (val := sdiff s a b) (fun c r _ _ => hb c r)
    rw [show sq2 s.length (sdiff s a b) = sumD s a b from rfl] at b1
    rw [show sq2 s.length (sdiff s a b) = sumD s a b from rfl, show (s.length : Int) * (s.length : Int) = area s from rfl] at e45
    have ba := area_bound a1 a2
    have e46 := n46 h.na (a := sumD s a b) (b := area s) (by omega) (by omega)
    unfold Ans at e45 e46
    rw [if_pos h0, call_eq h.h18]
    rw [h0]
    have hf := hf3 (chkScreen s) (chkFrm a) (chkFrm b)
    rw [h0] at hf
    simp only [go_sem, Nat.reduceEqDiff, Nat.reduceAdd, Nat.reduceLT, Nat.reduceLeDiff, Nat.mul_one, c18, hv.len, hv.pu, hv.frz, hv.one, hv.cells, e4, e51, hf, decide_true, Bool.not_true, e45, shut_agg, frz_agg0, e46]
    rfl
  · rw [if_neg h0, call_eq h.h18]
    simp only [go_sem, Nat.reduceEqDiff, Nat.reduceAdd, Nat.reduceLT, Nat.reduceLeDiff, Nat.mul_one, c18, hv.pu, hv.frz, hv.one, hv.cells, e4, e51, hf3, h0]
    rfl
end
end VE
