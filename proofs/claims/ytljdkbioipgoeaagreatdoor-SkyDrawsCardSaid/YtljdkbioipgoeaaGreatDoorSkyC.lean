import Derived.Test.YtljdkbioipgoeaaGreatDoorBuilt
import Derived.Test.YtljdkbioipgoeaaGreatDoorSkyB
import Derived.Test.YtljdkbioipgoeaaGreatDoorCodeD
import Derived.Test.YtljdkbioipgoeaaGreatDoorLaws
set_option linter.all false
section
/- built[int] of a function on values; loops over cells that make no new blocks; the program's smoothing. -/
set_option maxRecDepth 100000
namespace VE
open Go (IntKind)

section
variable {P : Prog} {L : Lib}

/-- A table of a function on values. -/
theorem s40_pure (h : BuT P L) {n : Nat} (hn : 0 < n) (hn1 : n ≤ 900) {g : Nat} {cap : List AV} {val : Nat → Nat → AV} (hc : pureL cap = true) (h1 : ∀ c r, oneCell (val c r) = true) (h2 : ∀ c r, pureAV (val c r) = true) (h3 : ∀ c r, shut (val c r) = val c r)
    (hg : ∀ c r, c < n → r < n → Ans P L g (I64 c :: I64 r :: cap) (val c r)) : Ans P L 40 [I64 n, .fn (.f g) [] cap] (tblV val n) := by
  have hpf : pureAV (.fn (.f g) [] cap) = true := by simp [pureAV, pureL, hc]
  have hf : CellFn P L 0 n (.fn (.f g) [] cap) val (fun _ => []) := by
    refine ⟨by omega, fun _ => ⟨below_pure hpf, by rw [refs_pure hpf]; simp, rfl, trivial, fun _ => by simp [oldRefs]⟩, h1, h2, fun c r hc' hr mine ct _ _ _ _ => ?_⟩
    have hp : pureL (I64 c :: I64 r :: cap) = true := by simp [pureL, pureAV, hc]
    have := hg c r hc' hr
    unfold Ans at this
    simp only [evCall, List.nil_append, List.cons_append, hp, cond_true, this, h3, List.append_nil]
  obtain ⟨tm, ct, e, h4⟩ := built_run h hn hf (fun p hp => by simp at hp)
  unfold Ans
  rw [call_eq h.h40, bind2, e, resC_r]
  have : resultOf ⟨tm, bNew 0 n (.fn (.f g) [] cap) val [], ct, 0⟩ c40.res = some (.osl (0 + 2) 0 n) := by
    show resultOf _ [.t 4] = _
    rw [res1, res_t, h4]
  rw [this, resV_s]
  exact built_res hn hn1

/-- The cells of a square, one after another, where nothing new is made. -/
theorem cells_gen (h : BuT P L) {l B n : Nat} (hl : l < B) (hn : n ≤ 1000) {H : Nat → Nat → Hp} (hw : ∀ r, r < n → H r n = H (r + 1) 0) (hb : ∀ r c, belowH B B (H r c)) (hr : ∀ r c, (oldRefs B (H r c)).length ≤ 5000)
    (hround : ∀ c r, c < n → r < n → evRound (D P L) (H r c) B l [I64 c, I64 r] = some (.bool true, H r (c + 1), B)) :
    ∃ tm, D P L c133.body ⟨[(0, .fn (.y l) [] []), (1, .vptr [.int .i64 n])], H 0 0, B, B⟩ = some (.normal, ⟨tm, H n 0, B, B⟩) := by
  have hcan : ∀ (live : List Nat) (tm : Env) (r c ct : Nat), belowE B (keep tm live) → (refsE (keep tm live)).length ≤ 1000 → compact live ⟨tm, H r c, ct, B⟩ = ⟨keep tm live, H r c, B, B⟩ := fun live tm r c ct h1 h2 =>
    compact_old h1 (hb r c) (by have := hr r c; omega)
  have hcall : ∀ (xs : List AV) (hp : Hp) (ct : Nat), evCall P L (D P L) hp ct .heap (.fn (.y l) [] []) xs = evRound (D P L) hp ct l xs := fun _ _ _ => rfl
  have inner : ∀ r, r < n → ∀ d st, (∃ c : Nat, compact [0, 1, 3, 5, 6, 9, 10] st = ⟨[(0, .fn (.y l) [] []), (1, .vptr [.int .i64 n]), (3, I64 r), (5, I64 n), (6, I64 r), (9, I64 n), (10, I64 c)], H r c, B, B⟩ ∧ c + d = n) →
      ∃ ex s', D P L (.loop [0, 1, 3, 5, 6, 9, 10] c133_0) st = some (ex, s') ∧ ∃ tm ct, s' = ⟨tm, H r n, ct, B⟩ ∧ ex = .exit 2 ∧ tget tm 0 = .fn (.y l) [] [] ∧ tget tm 1 = .vptr [.int .i64 n] ∧ tget tm 5 = I64 n ∧ tget tm 6 = I64 r := by
    intro r hr'
    refine loop_can (I := fun d st => ∃ c : Nat, st = ⟨[(0, .fn (.y l) [] []), (1, .vptr [.int .i64 n]), (3, I64 r), (5, I64 n), (6, I64 r), (9, I64 n), (10, I64 c)], H r c, B, B⟩ ∧ c + d = n)
      (Q := fun ex s' => ∃ tm ct, s' = ⟨tm, H r n, ct, B⟩ ∧ ex = .exit 2 ∧ tget tm 0 = .fn (.y l) [] [] ∧ tget tm 1 = .vptr [.int .i64 n] ∧ tget tm 5 = I64 n ∧ tget tm 6 = I64 r) ?_
    rintro d st ⟨c, rfl, hcd⟩
    by_cases hc : c < n
    · left
      simp only [go_sem, Nat.reduceEqDiff, Nat.reduceAdd, Nat.reduceMul, Nat.reduceLT, Nat.reduceLeDiff, Nat.mul_one, c133_0, show (c : Int) < n by omega, hcall, hround c r hc hr', show (c : Int) + 1 = ((c + 1 : Nat) : Int) from rfl, wrapN (n := c + 1) (by omega)]
      refine ⟨_, d - 1, rfl, by omega, c + 1, ?_, by omega⟩
      rw [hcan]
      · simp only [go_sem, Nat.reduceEqDiff, Nat.reduceAdd, Nat.reduceMul, Nat.reduceLT, Nat.reduceLeDiff, Nat.mul_one]
      · simp only [go_sem, Nat.reduceEqDiff, Nat.reduceAdd, Nat.reduceMul, Nat.reduceLT, Nat.reduceLeDiff, Nat.mul_one]
        exact ⟨⟨hl, rfl, rfl⟩, trivial, trivial, trivial, trivial, trivial, trivial, trivial⟩
      · simp only [go_sem, Nat.reduceEqDiff, Nat.reduceAdd, Nat.reduceMul, Nat.reduceLT, Nat.reduceLeDiff, Nat.mul_one]
    · right
      have : c = n := by omega
      subst this
      simp only [go_sem, Nat.reduceEqDiff, Nat.reduceAdd, Nat.reduceMul, Nat.reduceLT, Nat.reduceLeDiff, Nat.mul_one, c133_0, show ¬ (c : Int) < c by omega]
      refine ⟨_, _, rfl, by simp, _, _, rfl, rfl, ?_⟩
      simp only [go_sem, Nat.reduceEqDiff, Nat.reduceAdd, Nat.reduceMul, Nat.reduceLT, Nat.reduceLeDiff, Nat.mul_one]
      simp
  have outer : ∀ d st, (∃ r : Nat, compact [0, 1, 5, 6] st = ⟨[(0, .fn (.y l) [] []), (1, .vptr [.int .i64 n]), (5, I64 n), (6, I64 r)], H r 0, B, B⟩ ∧ r + d = n) →
      ∃ ex s', D P L (.loop [0, 1, 5, 6] c133_1) st = some (ex, s') ∧ ∃ tm ct, s' = ⟨tm, H n 0, ct, B⟩ ∧ ex = .exit 0 := by
    refine loop_can (I := fun d st => ∃ r : Nat, st = ⟨[(0, .fn (.y l) [] []), (1, .vptr [.int .i64 n]), (5, I64 n), (6, I64 r)], H r 0, B, B⟩ ∧ r + d = n)
      (Q := fun ex s' => ∃ tm ct, s' = ⟨tm, H n 0, ct, B⟩ ∧ ex = .exit 0) ?_
    rintro d st ⟨r, rfl, hrd⟩
    by_cases hr' : r < n
    · left
      simp only [go_sem, Nat.reduceEqDiff, Nat.reduceAdd, Nat.reduceMul, Nat.reduceLT, Nat.reduceLeDiff, Nat.mul_one, c133_1, show (r : Int) < n by omega]
      generalize hq : D P L (.loop [0, 1, 3, 5, 6, 9, 10] c133_0) _ = q
      obtain ⟨ex, st, rfl, tm, ct, rfl, rfl, g0, g1, g5, g6⟩ := of_key hq (inner r hr' n) ⟨0, by
        rw [hcan]
        · simp only [go_sem, Nat.reduceEqDiff, Nat.reduceAdd, Nat.reduceMul, Nat.reduceLT, Nat.reduceLeDiff, Nat.mul_one]
          rfl
        · simp only [go_sem, Nat.reduceEqDiff, Nat.reduceAdd, Nat.reduceMul, Nat.reduceLT, Nat.reduceLeDiff, Nat.mul_one]
          exact ⟨⟨hl, rfl, rfl⟩, trivial, trivial, trivial, trivial, trivial, trivial, trivial⟩
        · simp only [go_sem, Nat.reduceEqDiff, Nat.reduceAdd, Nat.reduceMul, Nat.reduceLT, Nat.reduceLeDiff, Nat.mul_one], by omega⟩
      rw [hw r hr', bindB_h, bindN_n, D_kp, hcan]
      · simp only [go_sem, Nat.reduceEqDiff, Nat.reduceAdd, Nat.reduceMul, Nat.reduceLT, Nat.reduceLeDiff, Nat.mul_one, g0, g1, g5, g6, show (r : Int) + 1 = ((r + 1 : Nat) : Int) from rfl, wrapN (n := r + 1) (by omega)]
        refine ⟨_, d - 1, rfl, by omega, r + 1, ?_, by omega⟩
        rw [hcan]
        · simp only [go_sem, Nat.reduceEqDiff, Nat.reduceAdd, Nat.reduceMul, Nat.reduceLT, Nat.reduceLeDiff, Nat.mul_one]
        · simp only [go_sem, Nat.reduceEqDiff, Nat.reduceAdd, Nat.reduceMul, Nat.reduceLT, Nat.reduceLeDiff, Nat.mul_one]
          exact ⟨⟨hl, rfl, rfl⟩, trivial, trivial, trivial, trivial⟩
        · simp only [go_sem, Nat.reduceEqDiff, Nat.reduceAdd, Nat.reduceMul, Nat.reduceLT, Nat.reduceLeDiff, Nat.mul_one]
      · simp only [go_sem, Nat.reduceEqDiff, Nat.reduceAdd, Nat.reduceMul, Nat.reduceLT, Nat.reduceLeDiff, Nat.mul_one, g0, g1, g5, g6]
        exact ⟨⟨hl, rfl, rfl⟩, trivial, trivial, trivial, trivial⟩
      · simp only [go_sem, Nat.reduceEqDiff, Nat.reduceAdd, Nat.reduceMul, Nat.reduceLT, Nat.reduceLeDiff, Nat.mul_one, g0, g1, g5, g6]
    · right
      have : r = n := by omega
      subst this
      simp only [go_sem, Nat.reduceEqDiff, Nat.reduceAdd, Nat.reduceMul, Nat.reduceLT, Nat.reduceLeDiff, Nat.mul_one, c133_1, show ¬ (r : Int) < r by omega]
      exact ⟨_, _, rfl, by simp, _, _, rfl, rfl⟩
  simp only [go_sem, Nat.reduceEqDiff, Nat.reduceAdd, Nat.reduceMul, Nat.reduceLT, Nat.reduceLeDiff, Nat.mul_one, c133]
  generalize hq : D P L (.loop [0, 1, 5, 6] c133_1) _ = q
  obtain ⟨ex, st, rfl, tm, ct, rfl, rfl⟩ := of_key hq (outer n) ⟨0, by
    rw [hcan]
    · simp only [go_sem, Nat.reduceEqDiff, Nat.reduceAdd, Nat.reduceMul, Nat.reduceLT, Nat.reduceLeDiff, Nat.mul_one]
      rfl
    · simp only [go_sem, Nat.reduceEqDiff, Nat.reduceAdd, Nat.reduceMul, Nat.reduceLT, Nat.reduceLeDiff, Nat.mul_one]
      exact ⟨⟨hl, rfl, rfl⟩, trivial, trivial, trivial, trivial⟩
    · simp only [go_sem, Nat.reduceEqDiff, Nat.reduceAdd, Nat.reduceMul, Nat.reduceLT, Nat.reduceLeDiff, Nat.mul_one], by omega⟩
  simp only [go_sem, Nat.reduceEqDiff, Nat.reduceAdd, Nat.reduceMul, Nat.reduceLT, Nat.reduceLeDiff, Nat.mul_one]
  rw [hcan]
  · exact ⟨_, rfl⟩
  · simp only [go_sem, Nat.reduceEqDiff, Nat.reduceAdd, Nat.reduceMul, Nat.reduceLT, Nat.reduceLeDiff, Nat.mul_one]
    trivial
  · simp only [go_sem, Nat.reduceEqDiff, Nat.reduceAdd, Nat.reduceMul, Nat.reduceLT, Nat.reduceLeDiff, Nat.mul_one]

structure SmP (P : Prog) (L : Lib) : Prop extends BuT P L, Sq P L where
  h41 : Has P L 41 c41
  h97 : Has P L 97 c97
  h134 : Has P L 134 c134

theorem s41 (h : SmP P L) {v w : AV} {s k : List (List Int)} (hv : IsS v s) (hw : IsS w k) {n m : Nat} (hn : s.length = n) (hn0 : 0 < n) (hn1 : n ≤ 16) (hs : sqChk n (-1000) 1000 s = 0) (hm : k.length = m) (hm0 : 0 < m) (hm1 : m ≤ 5) (hk : sqChk m (-100) 100 k = 0)
    {c r : Nat} (hc : c < n) (hr : r < n) : Ans P L 41 [I64 c, I64 r, .vptr [w], .vptr [v], .vptr [I64 (m / 2 : Nat)]] (I64 (smoothV s k c r)) := by
  -- the temporaries, the memory
  let TM : Env := [(13, .fn (.f 133) [] [.vptr [.int .i64 m]]), (12, .int .i64 m), (11, w), (8, .ptr 2 0), (7, .int .i64 0), (6, .ptr 1 0), (5, .ptr 0 0), (0, I64 c), (1, I64 r), (2, .vptr [w]), (3, .vptr [v]), (4, .vptr [I64 (m / 2 : Nat)])]
  let S : Nat → Nat → Int := fun j i => psum (fun j => psum (kterm s k c r j) m) j + psum (kterm s k c r j) i
  let HH : Nat → Nat → Nat → Hp := fun st j i => [(3, .lp TM [14, 15] c41_0 c41_1 st .none), (2, .cells true true true 1 [I64 (S j i)]), (1, .cells true true true 1 [I64 r]), (0, .cells true true true 1 [I64 c])]
  have hb : ∀ st j i, belowH 4 4 (HH st j i) := fun st j i => by
    refine ⟨by omega, ⟨⟨trivial, trivial, trivial⟩, trivial, below_pure hw.pu, show 2 < 4 by omega, trivial, show 1 < 4 by omega, show 0 < 4 by omega, trivial, trivial, trivial, trivial, trivial, trivial⟩, by omega, .inl rfl, by omega, .inl rfl, by omega, .inl rfl, trivial⟩
  have hrf : ∀ st j i, (oldRefs 4 (HH st j i)).length ≤ 5000 := fun st j i => by
    have : oldRefs 4 (HH st j i) = refsE TM := by
      simp only [HH, oldRefs, nblt_t (show 3 < 4 by omega), nblt_t (show 2 < 4 by omega), nblt_t (show 1 < 4 by omega), nblt_t (show 0 < 4 by omega), cond_true, refsO, List.append_nil]
    rw [this]
    simp [TM, refsE, refs, refsL, refs_pure hw.pu]
  have hround : ∀ i j, i < m → j < m → evRound (D P L) (HH 0 j i) 4 3 [I64 i, I64 j] = some (.bool true, HH 0 j (i + 1), 4) := fun i j hi hj => by
    have hj' : j < k.length := by omega
    obtain ⟨kr, rest, hr1, hr2⟩ := hw.ixa hj'
    have hkj := sqChk_get hk j hj'
    have hi' : i < k[j].length := by omega
    have b1 := kterm_bound hs hk c r j i
    have b2 := psum2_bound hs hk c r j i
    have b3 := psum_bound (f := fun j => psum (kterm s k c r j) m) (b := 500000) (fun j => by have := psum2_bound hs hk c r j m; omega) j
    have hcell := s97 h.h97 h.h134 hv hn hn0 (by omega) (fun i hi => (sqChk_get hs i hi).1) ((c : Int) + i - (m / 2 : Nat)) ((r : Int) + j - (m / 2 : Nat))
    have hkt : kterm s k c r j i = kv k j i * cellI s ((c : Int) + i - (m / 2 : Nat)) ((r : Int) + j - (m / 2 : Nat)) := by unfold kterm; rw [hm]
    have hS : S j (i + 1) = S j i + kterm s k c r j i := by simp only [S, psum, Int.add_assoc]
    have hSb : -9000000 ≤ S j i ∧ S j i ≤ 9000000 := by simp only [S]; omega
    unfold Ans at hcell
    have hbody : ∃ tm, D P L c41_1 ⟨(10, I64 j) :: (9, I64 i) :: (15, I64 j) :: (14, I64 i) :: TM, HH 1 j i, 4, 4⟩ = some (.normal, ⟨tm, HH 1 j (i + 1), 4, 4⟩) := by
      simp only [HH, hS]
      generalize S j i = sm at hSb
      simp only [TM]
      simp only [go_sem, Nat.reduceEqDiff, Nat.reduceAdd, Nat.reduceMul, Nat.reduceLT, Nat.reduceLeDiff, Nat.mul_one, c41_1, hv.len, hv.pu, hv.frz, hv.shut, hv.shut1, hv.res, hv.one, hv.cells, hw.len, hw.pu, hw.frz, hw.shut, hw.shut1, hw.res, hw.one, hw.cells, hr2, hr1.ixa hi', hr1.len, hr1.pu, hr1.frz, hr1.shut, hr1.shut1, hr1.res, hr1.one, hr1.cells, wrap64 (n := (c : Int) + i) (by omega) (by omega), wrap64 (n := (c : Int) + i - (m / 2 : Nat)) (by omega) (by omega),
        wrap64 (n := (r : Int) + j) (by omega) (by omega), wrap64 (n := (r : Int) + j - (m / 2 : Nat)) (by omega) (by omega), hcell, kv_get hj' hi', ← hkt, wrap64 (n := kterm s k c r j i) (by omega) (by omega),
        wrap64 (n := sm + kterm s k c r j i) (by omega) (by omega)]
      exact ⟨_, rfl⟩
    obtain ⟨tm, hbody⟩ := hbody
    exact round_eq (tm' := (15, I64 j) :: (14, I64 i) :: TM) (show hget (HH 0 j i) 3 = some (.lp TM [14, 15] c41_0 c41_1 0 .none) from rfl) rfl (s1 := ⟨(10, I64 j) :: (9, I64 i) :: (15, I64 j) :: (14, I64 i) :: TM, HH 0 j i, 4, 4⟩) (by unfold c41_0; simp only [go_sem, Nat.reduceEqDiff, Nat.reduceAdd, Nat.reduceMul, Nat.reduceLT, Nat.reduceLeDiff, Nat.mul_one]) rfl hbody rfl
  have hgen := cells_gen (P := P) (L := L) h.toBuT (l := 3) (B := 4) (n := m) (by omega) (by omega) (H := HH 0) (fun j hj => by simp only [HH, S, psum, Int.add_zero]) (hb 0) (hrf 0) hround
  obtain ⟨tm, hgen⟩ := hgen
  have hrf' := rf_eq (P := P) (L := L) (f := .t 13) (ps := [14, 15]) (as_ := c41_0) (body := c41_1)
    (s := ⟨TM, [(2, .cells true true true 1 [I64 (S 0 0)]), (1, .cells true true true 1 [I64 r]), (0, .cells true true true 1 [I64 c])], 3, 0⟩)
    (n := 133) (first := []) (cap := [.vptr [.int .i64 m]]) rfl h.h133.heap (heap_eq h.h133 hgen (.inl rfl) rfl) (by rfl) (by decide)
  have hd : hdel (HH 0 m 0) 3 = [(2, .cells true true true 1 [I64 (smoothV s k c r)]), (1, .cells true true true 1 [I64 r]), (0, .cells true true true 1 [I64 c])] := by
    have : S m 0 = smoothV s k c r := by simp only [S, psum, Int.add_zero]; rw [smoothV_eq, hm]
    simp only [HH, this]; rfl
  have h00 : S 0 0 = 0 := by simp [S, psum]
  simp only [TM, h00, hd] at hrf'
  unfold Ans
  rw [call_eq h.h41]
  simp only [go_sem, Nat.reduceEqDiff, Nat.reduceAdd, Nat.reduceMul, Nat.reduceLT, Nat.reduceLeDiff, Nat.mul_one, c41, hv.len, hv.pu, hv.frz, hv.shut, hv.shut1, hv.res, hv.one, hv.cells, hw.len, hw.pu, hw.frz, hw.shut, hw.shut1, hw.res, hw.one, hw.cells, hm, s96 h.toBuT, hrf']
end
end VE
end
section
/- Chapter 7, integers: the program's smoothing and drawing. -/
set_option maxRecDepth 100000
namespace VE
open Go (IntKind)

section
variable {P : Prog} {L : Lib}

theorem chkScreen_ok {s : List (List Int)} (h : chkScreen s = 0) : 0 < s.length ∧ s.length ≤ 16 ∧ sqChk s.length (-1000) 1000 s = 0 := by
  unfold chkScreen at h
  split at h
  · simp at h
  · split at h
    · simp at h
    · exact ⟨by omega, by omega, h⟩
theorem chkKernel_ok {s : List (List Int)} (h : chkKernel s = 0) : 0 < s.length ∧ s.length ≤ 5 ∧ s.length % 2 = 1 ∧ sqChk s.length (-100) 100 s = 0 := by
  unfold chkKernel at h
  split at h
  · simp at h
  · split at h
    · simp at h
    · split at h
      · simp at h
      · exact ⟨by omega, by omega, by omega, h⟩

theorem sqChk_out {n : Nat} : ∀ {l : List (List Int)}, (∀ r, r ∈ l → r.length = n) → sqChk n (-1000) 1000 l = if outT l = true then 3 else 0
  | [], _ => rfl
  | r :: l, h => by
    have ih := sqChk_out (l := l) (fun r hr => h r (by simp [hr]))
    have h1 := h r (by simp)
    simp only [sqChk, h1, ne_eq, not_true_eq_false, if_false, outT, ih]
    by_cases ho : outI (-1000) 1000 r = true
    · simp [ho]
    · simp only [Bool.not_eq_true] at ho
      simp [ho]

theorem tblV_S {n : Nat} (f : Nat → Nat → Int) : IsS (tblV (fun c r => I64 (f c r)) n) (tbl n f) := by
  have h1 : tblV (fun c r => I64 (f c r)) n = .vsl true n ((List.range n).map fun r => .vsl true n (((List.range n).map fun c => f c r).map I64)) := by
    simp only [tblV, List.map_map]
    rfl
  have hlen : ((List.range n).map fun r => AV.vsl true n (((List.range n).map fun c => f c r).map I64)).length = n := by simp
  refine ⟨(List.range n).map fun r => .vsl true n (((List.range n).map fun c => f c r).map I64), ?_, ?_⟩
  · rw [h1]
    have := isL_vsl true ((List.range n).map fun r => AV.vsl true n (((List.range n).map fun c => f c r).map I64))
    rwa [hlen] at this
  · have : ∀ m : List Nat, All2 IsI (m.map fun r => AV.vsl true n (((List.range n).map fun c => f c r).map I64)) (m.map fun r => (List.range n).map fun c => f c r) := by
      intro m
      induction m with
      | nil => trivial
      | cons r m ih =>
        refine ⟨?_, ih⟩
        have := isI_vsl true ((List.range n).map fun c => f c r)
        rwa [List.length_map, List.length_range] at this
    exact this _

theorem s9 (h : SmP P L) {v w : AV} {s k : List (List Int)} (hv : IsS v s) (hw : IsS w k) (hl : s.length ≤ 1000000) (hr : ∀ i (hi : i < s.length), s[i].length ≤ 1000000) (hl' : k.length ≤ 1000000) (hr' : ∀ i (hi : i < k.length), k[i].length ≤ 1000000) :
    (firstI [chkScreen s, chkKernel k] ≠ 0 → Ans P L 9 [v, w] (.tup [.nils, I64 (firstI [chkScreen s, chkKernel k])])) ∧
    (firstI [chkScreen s, chkKernel k] = 0 → Ans P L 9 [v, w] (if outT (smRows s k s.length s.length) = true then .tup [.nils, I64 4] else .tup [tblV (fun c r => I64 (smoothV s k c r)) s.length, I64 0])) := by
  have e4 := s4 h.toSq hv hl hr
  have e32 := s32 h.toSq hw hl' hr' (m := 100) (by decide) (by decide)
  have hf5 : ∀ a b c d e : Int, Ans P L 33 [.vsl true 5 [.int .i64 a, .int .i64 b, .int .i64 c, .int .i64 d, .int .i64 e]] (I64 (firstI [a, b, c, d, e])) := fun a b c d e => s33 h.h33 (isI_vsl true [a, b, c, d, e]) (by simp)
  have hd2 : (2 : Int) ≠ 0 := by decide
  have hm2 : (k.length : Int).tmod 2 = (k.length % 2 : Nat) := by rw [Int.tmod_eq_emod_of_nonneg (by omega)]; rfl
  have hq2 : (k.length : Int).tdiv 2 = (k.length / 2 : Nat) := by rw [Int.tdiv_eq_ediv_of_nonneg (by omega)]; rfl
  have hE : firstI [chkScreen s, if decide ((k.length : Int) = 0) = true then 12 else 0, if decide ((5 : Int) < k.length) = true then 5 else 0, if decide (((k.length % 2 : Nat) : Int) = 0) = true then 2 else 0, sqChk k.length (-100) 100 k] = firstI [chkScreen s, chkKernel k] := by
    unfold chkKernel
    by_cases h1 : k.length = 0
    · simp [h1, firstI]
    · by_cases h2 : 5 < k.length
      · simp [h1, h2, firstI, show (5 : Int) < k.length by omega]
      · by_cases h3 : k.length % 2 = 0
        · simp only [h1, h2, h3, firstI, show ¬ (k.length : Int) = 0 by omega, show ¬ (5 : Int) < k.length by omega, show ((0 : Nat) : Int) = 0 from rfl, decide_false, decide_true, Bool.false_eq_true, if_false, if_true]
          split <;> simp_all
        · simp only [h1, h2, h3, firstI, show ¬ (k.length : Int) = 0 by omega, show ¬ (5 : Int) < k.length by omega, show ¬ ((k.length % 2 : Nat) : Int) = 0 by omega, decide_false, Bool.false_eq_true, if_false, if_true]
  unfold Ans at e4 e32 hf5 ⊢
  constructor
  · intro hne
    rw [call_eq h.h9]
    simp only [go_sem, Nat.reduceEqDiff, Nat.reduceAdd, Nat.reduceMul, Nat.reduceLT, Nat.reduceLeDiff, Nat.mul_one, c9, hv.len, hv.pu, hv.frz, hv.shut, hv.shut1, hv.res, hv.one, hv.cells, hw.len, hw.pu, hw.frz, hw.shut, hw.shut1, hw.res, hw.one, hw.cells, e4, e32, hf5, s31 h.h31, bin_rem _ _ _ hd2, hm2, hE, hne]
  · intro h0
    have hs0 : chkScreen s = 0 := by
      simp only [firstI] at h0
      split at h0
      · assumption
      · assumption
    have hk0 : chkKernel k = 0 := by
      simp only [firstI, hs0, if_true] at h0
      split at h0
      · assumption
      · assumption
    obtain ⟨a1, a2, a3⟩ := chkScreen_ok hs0
    obtain ⟨b1, b2, b3, b4⟩ := chkKernel_ok hk0
    have e40 := s40_pure h.toBuT a1 (by omega) (g := 41) (cap := [.vptr [w], .vptr [v], .vptr [I64 (k.length / 2 : Nat)]]) (val := fun c r => I64 (smoothV s k c r)) (by rfl) (fun _ _ => rfl) (fun _ _ => rfl) (fun _ _ => rfl) (fun c r hc hr => s41 h hv hw rfl a1 a2 a3 rfl b1 b2 b4 hc hr)
    have hT := tblV_S (n := s.length) (fun c r => smoothV s k c r)
    have e32' := s32 h.toSq hT (by rw [tbl_len]; omega) (fun i hi => by
      rw [tbl_len] at hi
      rw [tbl_row hi]; simp; omega) (m := 1000) (by decide) (by decide)
    rw [tbl_len, show tbl s.length (fun c r => smoothV s k c r) = smRows s k s.length s.length from rfl, sqChk_out (fun r hr => by
      simp only [smRows, List.mem_map] at hr
      obtain ⟨i, _, rfl⟩ := hr
      simp [smRow_len])] at e32'
    unfold Ans at e40 e32'
    rw [call_eq h.h9]
    have hTu := hT.len (hp := [])
    simp only [go_sem, Nat.reduceEqDiff, Nat.reduceAdd, Nat.reduceMul, Nat.reduceLT, Nat.reduceLeDiff, Nat.mul_one, c9, hv.len, hv.pu, hv.frz, hv.shut, hv.shut1, hv.res, hv.one, hv.cells, hw.len, hw.pu, hw.frz, hw.shut, hw.shut1, hw.res, hw.one, hw.cells, e4, e32, hf5, s31 h.h31, bin_rem _ _ _ hd2, hm2, hE, h0, bin_quo _ _ _ hd2, hq2, wrapN (n := k.length / 2) (by omega), e40, hT.len, hT.pu, hT.frz, hT.shut, hT.shut1, hT.res, hT.one, hT.cells, e32']
    cases hb : outT (smRows s k s.length s.length) with
    | true => simp only [go_sem, Nat.reduceEqDiff, Nat.reduceAdd, Nat.reduceMul, Nat.reduceLT, Nat.reduceLeDiff, Nat.mul_one, if_true, Int.reduceEq]
    | false => simp only [go_sem, Nat.reduceEqDiff, Nat.reduceAdd, Nat.reduceMul, Nat.reduceLT, Nat.reduceLeDiff, Nat.mul_one, Bool.false_eq_true, if_false, tblV]

theorem hget_mine {b x : Nat} {H : Hp} (hx : x < b) : ∀ {mine : Hp}, (∀ p, p ∈ mine → b ≤ p.1) → hget (mine ++ H) x = hget H x
  | [], _ => rfl
  | (id, o) :: r, h => by
    have := h (id, o) (by simp)
    simp only [List.cons_append]
    rw [hget, nbeq_ne (by simp only at this; omega), cond_false, hget_mine hx (fun p hp => h p (by simp [hp]))]
theorem hset_mine {b x : Nat} {H : Hp} {o' : Obj} (hx : x < b) : ∀ {mine : Hp}, (∀ p, p ∈ mine → b ≤ p.1) → hset (mine ++ H) x o' = mine ++ hset H x o'
  | [], _ => rfl
  | (id, o) :: r, h => by
    have := h (id, o) (by simp)
    simp only [List.cons_append]
    rw [hset, nbeq_ne (by simp only at this; omega), cond_false, hset_mine hx (fun p hp => h p (by simp [hp]))]

/-- The blocks of Drawn. -/
def drH (v : AV) (w : List Int) (junk : List AV) (x : Int) : Hp := [(3, .cells true true true 1 [I64 x]), (2, .cells true true true 1 [I64 (sumI w)]), (1, .cells false true true 1 junk), (0, .cells true true true 1 [v])]

theorem drH_below {v : AV} {w : List Int} {junk : List AV} {x : Int} {B : Nat} (h : 4 ≤ B) : belowH B B (drH v w junk x) := ⟨by omega, .inl rfl, by omega, .inl rfl, by omega, .inl rfl, by omega, .inl rfl, trivial⟩
theorem drH_refs {v : AV} {w : List Int} {junk : List AV} {x : Int} {B : Nat} : oldRefs B (drH v w junk x) = [] := by
  simp only [drH, oldRefs, refsO, cond_true, List.nil_append]
  cases Nat.blt 3 B <;> cases Nat.blt 2 B <;> cases Nat.blt 1 B <;> cases Nat.blt 0 B <;> rfl

theorem s39 (h : Has P L 39 c39) {v : AV} {w : List Int} (hv : IsI v w) (hw : w.length ≤ 33) (ho : outI 0 1000 w = false) (hs : 0 < sumI w) {junk : List AV} {x : Int} (hx : 0 ≤ x ∧ x ≤ 2147483646) (c r : Int) {mine : Hp} {ct : Nat} (hm : ∀ p, p ∈ mine → 4 ≤ p.1) (hct : 4 ≤ ct)
    (hb : belowH ct ct mine) (hr : (oldRefs ct mine).length ≤ 5000) :
    evCall P L (D P L) (mine ++ drH v w junk x) ct .dyn (.fn (.f 39) [] [.ptr 3 0, .ptr 2 0, .ptr 0 0]) [I64 c, I64 r] = some (I64 ((pickK w (nextX x % sumI w) : Int) - (w.length / 2 : Nat)), mine ++ drH v w junk (nextX x), ct) := by
  have hx1 := nextX_bound x
  have hm1 : (39373 * x).tmod 2147483647 = nextX x := by rw [Int.tmod_eq_emod_of_nonneg (by omega)]; rfl
  have hm2 : (nextX x).tmod (sumI w) = nextX x % sumI w := by rw [Int.tmod_eq_emod_of_nonneg (by omega)]
  have hd1 : (2147483647 : Int) ≠ 0 := by decide
  have hd2 : sumI w ≠ 0 := by omega
  have hd3 : (2 : Int) ≠ 0 := by decide
  have hq2 : (w.length : Int).tdiv 2 = (w.length / 2 : Nat) := by rw [Int.tdiv_eq_ediv_of_nonneg (by omega)]; rfl
  generalize ht : nextX x % sumI w = t at hm2 ⊢
  have ht0 : 0 ≤ t := by rw [← ht]; exact Int.emod_nonneg _ hd2
  have ht1 : t < sumI w := by rw [← ht]; exact Int.emod_lt_of_pos _ hs
  have hp := pickK_lt ht1 ht0
  have g0 : ∀ x, hget (mine ++ drH v w junk x) 0 = some (.cells true true true 1 [v]) := fun x => hget_mine (by omega) hm
  have g2 : ∀ x, hget (mine ++ drH v w junk x) 2 = some (.cells true true true 1 [I64 (sumI w)]) := fun x => hget_mine (by omega) hm
  have g3 : ∀ x, hget (mine ++ drH v w junk x) 3 = some (.cells true true true 1 [I64 x]) := fun x => hget_mine (by omega) hm
  have s3 : ∀ x y, hset (mine ++ drH v w junk x) 3 (.cells true true true 1 [.int .i64 y]) = mine ++ drH v w junk y := fun x y => hset_mine (by omega) hm
  have hcan : ∀ (live : List Nat) (tm : Env) (x : Int) (ct' : Nat), belowE ct (keep tm live) → (refsE (keep tm live)).length ≤ 1000 → compact live ⟨tm, mine ++ drH v w junk x, ct', ct⟩ = ⟨keep tm live, mine ++ drH v w junk x, ct, ct⟩ := fun live tm x ct' h1 h2 =>
    compact_old h1 (belowH_app hb (drH_below hct)) (by rw [oldRefs_app, drH_refs, List.append_nil]; omega)
  have key := loop_can (P := P) (L := L) (live := [4, 8, 9, 18, 19, 20]) (a := c39_0)
    (I := fun k st => ∃ i : Nat, st = ⟨[(4, .ptr 0 0), (8, I64 (t - sumI (w.take i))), (9, I64 0), (18, v), (19, I64 w.length), (20, I64 i)], mine ++ drH v w junk (nextX x), ct, ct⟩ ∧ i + k = w.length ∧ ∀ j, j < i → sumI (w.take (j + 1)) ≤ t)
    (Q := fun ex st => ∃ tm ct', st = ⟨tm, mine ++ drH v w junk (nextX x), ct', ct⟩ ∧ ex = .exit 0 ∧ tget tm 9 = I64 ((pickK w t : Int) - (w.length / 2 : Nat))) ?_
  · have hnp : pureL ([] ++ ([I64 c, I64 r] ++ [AV.ptr 3 0, .ptr 2 0, .ptr 0 0])) = false := rfl
    simp only [evCall, hnp, cond_false]
    have hrun : ∃ tm, D P L c39.body ⟨bindArgs 0 ([] ++ ([I64 c, I64 r] ++ [AV.ptr 3 0, .ptr 2 0, .ptr 0 0])), mine ++ drH v w junk x, ct, ct⟩ = some (.ret, ⟨tm, mine ++ drH v w junk (nextX x), ct, ct⟩) ∧ tget tm 7 = I64 ((pickK w t : Int) - (w.length / 2 : Nat)) := by
      simp only [go_sem, Nat.reduceEqDiff, Nat.reduceAdd, Nat.reduceMul, Nat.reduceLT, Nat.reduceLeDiff, Nat.mul_one, c39, hv.len, hv.pu, hv.frz, hv.shut, hv.shut1, hv.res, hv.one, hv.cells, g0, g2, g3, s3, wrap64 (n := 39373 * x) (by omega) (by omega), bin_rem _ _ _ hd1, hm1, bin_rem _ _ _ hd2, hm2]
      generalize hq : D P L (.loop [4, 8, 9, 18, 19, 20] c39_0) _ = q
      obtain ⟨ex, st, rfl, tm, ct', rfl, rfl, h9⟩ := of_key hq (key w.length) ⟨0, by
        rw [hcan]
        · simp only [go_sem, Nat.reduceEqDiff, Nat.reduceAdd, Nat.reduceMul, Nat.reduceLT, Nat.reduceLeDiff, Nat.mul_one, List.take_zero, sumI, Int.sub_zero]
          rfl
        · simp only [go_sem, Nat.reduceEqDiff, Nat.reduceAdd, Nat.reduceMul, Nat.reduceLT, Nat.reduceLeDiff, Nat.mul_one]
          exact ⟨by show 0 < ct; omega, trivial, trivial, below_pure hv.pu, trivial, trivial, trivial⟩
        · simp only [go_sem, Nat.reduceEqDiff, Nat.reduceAdd, Nat.reduceMul, Nat.reduceLT, Nat.reduceLeDiff, Nat.mul_one, refs_pure hv.pu, ren_pure _ hv.pu], by omega, fun j hj => absurd hj (by omega)⟩
      rw [bindB_h, bindN_n, D_kp, hcan]
      · simp only [go_sem, Nat.reduceEqDiff, Nat.reduceAdd, Nat.reduceMul, Nat.reduceLT, Nat.reduceLeDiff, Nat.mul_one, h9]
        exact ⟨_, rfl, by simp only [go_sem, Nat.reduceEqDiff, Nat.reduceAdd, Nat.reduceMul, Nat.reduceLT, Nat.reduceLeDiff, Nat.mul_one]⟩
      · simp only [go_sem, Nat.reduceEqDiff, Nat.reduceAdd, Nat.reduceMul, Nat.reduceLT, Nat.reduceLeDiff, Nat.mul_one, h9]
        exact ⟨trivial, trivial⟩
      · simp only [go_sem, Nat.reduceEqDiff, Nat.reduceAdd, Nat.reduceMul, Nat.reduceLT, Nat.reduceLeDiff, Nat.mul_one, h9]
    obtain ⟨tm, hrun, h7⟩ := hrun
    exact heap_eq h hrun (.inr rfl) (by show resultOf _ [.t 7] = _; rw [res1, res_t, h7])
  · rintro k st ⟨i, rfl, hk, hj⟩
    have hi : i < w.length := by
      by_cases hc : i < w.length
      · exact hc
      · exfalso
        have hi0 : 0 < i := by
          cases w with
          | nil => simp [sumI] at hs
          | cons a r => simp only [List.length_cons] at hc; omega
        have := hj (i - 1) (by omega)
        rw [List.take_of_length_le (by omega)] at this
        omega
    have hb1 := sumI_bound (outI_take ho i)
    have hsw := sumI_bound ho
    have hlen : (w.take i).length ≤ 33 := by rw [List.length_take]; omega
    have hg := outI_get ho i hi
    by_cases h1 : t - sumI (w.take i) < w[i]
    · right
      simp only [go_sem, Nat.reduceEqDiff, Nat.reduceAdd, Nat.reduceMul, Nat.reduceLT, Nat.reduceLeDiff, Nat.mul_one, c39_0, hv.len, hv.pu, hv.frz, hv.shut, hv.shut1, hv.res, hv.one, hv.cells, show (i : Int) < w.length by omega, hv.ixa hi, h1, g0, bin_quo _ _ _ hd3, hq2, wrapN (n := w.length / 2) (by omega), wrap64 (n := (i : Int) - (w.length / 2 : Nat)) (by omega) (by omega)]
      refine ⟨_, _, rfl, by simp, _, _, rfl, rfl, ?_⟩
      rw [pickK_at hi hj (by rw [sumI_take hi]; omega)]
      simp only [go_sem, Nat.reduceEqDiff, Nat.reduceAdd, Nat.reduceMul, Nat.reduceLT, Nat.reduceLeDiff, Nat.mul_one]
    · left
      simp only [go_sem, Nat.reduceEqDiff, Nat.reduceAdd, Nat.reduceMul, Nat.reduceLT, Nat.reduceLeDiff, Nat.mul_one, c39_0, hv.len, hv.pu, hv.frz, hv.shut, hv.shut1, hv.res, hv.one, hv.cells, show (i : Int) < w.length by omega, hv.ixa hi, h1, wrap64 (n := t - sumI (w.take i) - w[i]) (by omega) (by omega), show (i : Int) + 1 = ((i + 1 : Nat) : Int) from rfl, wrapN (n := i + 1) (by omega)]
      refine ⟨_, k - 1, rfl, by omega, i + 1, ?_, by omega, ?_⟩
      · rw [hcan]
        · rw [sumI_take hi]
          simp only [go_sem, Nat.reduceEqDiff, Nat.reduceAdd, Nat.reduceMul, Nat.reduceLT, Nat.reduceLeDiff, Nat.mul_one, Int.sub_sub]
        · simp only [go_sem, Nat.reduceEqDiff, Nat.reduceAdd, Nat.reduceMul, Nat.reduceLT, Nat.reduceLeDiff, Nat.mul_one]
          exact ⟨by show 0 < ct; omega, trivial, trivial, below_pure hv.pu, trivial, trivial, trivial⟩
        · simp only [go_sem, Nat.reduceEqDiff, Nat.reduceAdd, Nat.reduceMul, Nat.reduceLT, Nat.reduceLeDiff, Nat.mul_one, refs_pure hv.pu, ren_pure _ hv.pu]
      · intro j hj'
        by_cases e : j = i
        · subst e; rw [sumI_take hi]; omega
        · exact hj j (by omega)

structure DrP (P : Prog) (L : Lib) : Prop extends SmP P L where
  h5 : Has P L 5 c5
  h34 : Has P L 34 c34
  h35 : Has P L 35 c35
  h36 : Has P L 36 c36
  h37 : Has P L 37 c37
  h38 : Has P L 38 c38
  h39 : Has P L 39 c39

theorem first_when {l : List Int} : firstI (l.map fun x => if x < 0 ∨ 1000 < x then 3 else 0) = if outI 0 1000 l = true then 3 else 0 := by
  induction l with
  | nil => rfl
  | cons a r ih =>
    simp only [List.map_cons, firstI, outI, ih]
    by_cases h : a < 0 ∨ 1000 < a
    · simp [h]
    · simp [h]

theorem s5 (h : DrP P L) {v : AV} {w : List Int} (hv : IsI v w) (hl : w.length ≤ 1000000) (key side : Int) :
    (chkDrawn key side w ≠ 0 → Ans P L 5 [I64 key, I64 side, v] (.tup [.nils, I64 (chkDrawn key side w)])) ∧
    (chkDrawn key side w = 0 → ∃ n : Nat, side = n ∧ 0 < n ∧ n ≤ 16 ∧ Ans P L 5 [I64 key, I64 side, v] (.tup [tblV (fun c r => I64 (drawnV key w (r * n + c))) n, I64 0])) := by
  have hf5 : ∀ a b c d e : Int, Ans P L 33 [.vsl true 5 [.int .i64 a, .int .i64 b, .int .i64 c, .int .i64 d, .int .i64 e]] (I64 (firstI [a, b, c, d, e])) := fun a b c d e => s33 h.h33 (isI_vsl true [a, b, c, d, e]) (by simp)
  have hd2 : (2 : Int) ≠ 0 := by decide
  have hm2 : (w.length : Int).tmod 2 = (w.length % 2 : Nat) := by rw [Int.tmod_eq_emod_of_nonneg (by omega)]; rfl
  obtain ⟨r35, e35, i35⟩ := s35 h.h35 hv hl (g := 36) (f := fun x => if x < 0 ∨ 1000 < x then 3 else 0) (fun x => s36 h.h36 h.h34 h.h31 x)
  have e33 := s33 h.h33 i35 (by simpa using hl)
  rw [first_when] at e33
  have hE : firstI [if key < 1 ∨ 2147483646 < key then 3 else 0, if side < 1 ∨ 16 < side then 3 else 0, if decide ((w.length : Int) = 0) = true then 12 else 0, if decide ((33 : Int) < w.length) = true then 5 else 0, if decide (((w.length % 2 : Nat) : Int) = 0) = true then 2 else 0] =
      if key < 1 ∨ 2147483646 < key then 3 else if side < 1 ∨ 16 < side then 3 else if w.length = 0 then 12 else if 33 < w.length then 5 else if w.length % 2 = 0 then 2 else 0 := by
    by_cases h1 : key < 1 ∨ 2147483646 < key
    · simp [h1, firstI]
    · by_cases h2 : side < 1 ∨ 16 < side
      · simp [h1, h2, firstI]
      · by_cases h3 : w.length = 0
        · simp [h1, h2, h3, firstI]
        · by_cases h4 : 33 < w.length
          · simp [h1, h2, h3, h4, firstI, show (33 : Int) < w.length by omega]
          · by_cases h5 : w.length % 2 = 0
            · simp [h1, h2, h3, h4, h5, firstI, show ¬ (33 : Int) < w.length by omega]
            · simp only [h1, h2, h3, h4, h5, firstI, show ¬ (33 : Int) < w.length by omega, show ¬ (w.length : Int) = 0 by omega, show ¬ ((w.length % 2 : Nat) : Int) = 0 by omega, decide_false, Bool.false_eq_true, if_false, if_true]
  unfold Ans at hf5 e35 e33 ⊢
  generalize hEE : (if key < 1 ∨ 2147483646 < key then (3 : Int) else if side < 1 ∨ 16 < side then 3 else if w.length = 0 then 12 else if 33 < w.length then 5 else if w.length % 2 = 0 then 2 else 0) = E at hE
  have hchk : chkDrawn key side w = if E ≠ 0 then E else if outI 0 1000 w = true then 3 else if sumI w = 0 then 6 else 0 := by
    rw [← hEE]
    unfold chkDrawn
    by_cases h1 : key < 1 ∨ 2147483646 < key
    · simp [h1]
    · by_cases h2 : side < 1 ∨ 16 < side
      · simp [h1, h2]
      · by_cases h3 : w.length = 0
        · simp [h1, h2, h3]
        · by_cases h4 : 33 < w.length
          · simp [h1, h2, h3, h4]
          · by_cases h5 : w.length % 2 = 0
            · simp [h1, h2, h3, h4, h5]
            · simp [h1, h2, h3, h4, h5]
  have hz36 : ∀ hp, freeze 998 hp (.fn (.f 36) [] []) = some (.fn (.f 36) [] [], hp) := fun hp => by simp only [go_sem, Nat.reduceEqDiff, Nat.reduceAdd, Nat.reduceMul, Nat.reduceLT, Nat.reduceLeDiff, Nat.mul_one]
  by_cases h0 : E ≠ 0
  · rw [if_pos h0] at hchk
    rw [hchk]
    refine ⟨fun _ => ?_, fun h => absurd h h0⟩
    rw [call_eq h.h5]
    simp only [go_sem, Nat.reduceEqDiff, Nat.reduceAdd, Nat.reduceMul, Nat.reduceLT, Nat.reduceLeDiff, Nat.mul_one, c5, hv.len, hv.pu, hv.frz, hv.shut, hv.shut1, hv.res, hv.one, hv.cells, s34 h.h34 h.h31, s31 h.h31, bin_rem _ _ _ hd2, hm2, hf5, hE, h0]
  · rw [if_neg h0] at hchk
    have h0' : E = 0 := by omega
    by_cases h1 : outI 0 1000 w = true
    · rw [if_pos h1] at hchk e33
      rw [hchk]
      refine ⟨fun _ => ?_, fun h => absurd h (by decide)⟩
      rw [call_eq h.h5]
      simp only [go_sem, Nat.reduceEqDiff, Nat.reduceAdd, Nat.reduceMul, Nat.reduceLT, Nat.reduceLeDiff, Nat.mul_one, c5, hv.len, hv.pu, hv.frz, hv.shut, hv.shut1, hv.res, hv.one, hv.cells, s34 h.h34 h.h31, s31 h.h31, bin_rem _ _ _ hd2, hm2, hf5, hE, h0', e35, i35.len, i35.pu, i35.frz, i35.shut, i35.shut1, i35.res, i35.one, i35.cells, e33, Int.reduceEq]
    · rw [if_neg h1] at hchk e33
      have ho : outI 0 1000 w = false := by simpa using h1
      have hrange : (1 ≤ key ∧ key ≤ 2147483646) ∧ (1 ≤ side ∧ side ≤ 16) ∧ w.length ≤ 33 := by
        rw [h0'] at hEE
        by_cases g1 : key < 1 ∨ 2147483646 < key
        · simp [g1] at hEE
        · by_cases g2 : side < 1 ∨ 16 < side
          · simp [g1, g2] at hEE
          · by_cases g3 : w.length = 0
            · simp [g1, g2, g3] at hEE
            · by_cases g4 : 33 < w.length
              · simp [g1, g2, g3, g4] at hEE
              · omega
      have e37 := s37 h.h37 h.h38 hv hrange.2.2 ho
      unfold Ans at e37
      by_cases h2 : sumI w = 0
      · rw [if_pos h2] at hchk
        rw [hchk]
        refine ⟨fun _ => ?_, fun h => absurd h (by decide)⟩
        rw [call_eq h.h5]
        simp only [go_sem, Nat.reduceEqDiff, Nat.reduceAdd, Nat.reduceMul, Nat.reduceLT, Nat.reduceLeDiff, Nat.mul_one, c5, hv.len, hv.pu, hv.frz, hv.shut, hv.shut1, hv.res, hv.one, hv.cells, s34 h.h34 h.h31, s31 h.h31, bin_rem _ _ _ hd2, hm2, hf5, hE, h0', e35, i35.len, i35.pu, i35.frz, i35.shut, i35.shut1, i35.res, i35.one, i35.cells, e33, e37, h2]
      · rw [if_neg h2] at hchk
        rw [hchk]
        refine ⟨fun h => absurd rfl h, fun _ => ?_⟩
        have hb := sumI_bound ho
        obtain ⟨n, rfl⟩ : ∃ n : Nat, side = n := ⟨side.toNat, by omega⟩
        refine ⟨n, rfl, by omega, by omega, ?_⟩
        rw [call_eq h.h5]
        simp only [go_sem, Nat.reduceEqDiff, Nat.reduceAdd, Nat.reduceMul, Nat.reduceLT, Nat.reduceLeDiff, Nat.mul_one, c5, hv.len, hv.pu, hv.frz, hv.shut, hv.shut1, hv.res, hv.one, hv.cells, s34 h.h34 h.h31, s31 h.h31, bin_rem _ _ _ hd2, hm2, hf5, hE, h0', e35, i35.len, i35.pu, i35.frz, i35.shut, i35.shut1, i35.res, i35.one, i35.cells, e33, e37, h2]
        generalize hj : [AV.int .i64 (if key < 1 ∨ 2147483646 < key then 3 else 0), _, _, _, _] = junk
        have hf : CellFn P L 4 n (.fn (.f 39) [] [.ptr 3 0, .ptr 2 0, .ptr 0 0]) (fun c r => I64 (drawnV key w (r * n + c))) (fun k => drH v w junk (iterX key k)) := by
          refine ⟨by omega, fun k => ⟨⟨trivial, show 3 < 4 by omega, show 2 < 4 by omega, show 0 < 4 by omega, trivial⟩, by simp [refs, refsL], rfl, drH_below (Nat.le_refl 4), fun B => by rw [drH_refs]; simp⟩, fun _ _ => rfl, fun _ _ => rfl, fun c r hc hr mine ct hm hct hb hrf => ?_⟩
          have hx := iterX_bound (key := key) (by omega) (r * n + c)
          have := s39 (P := P) (L := L) h.h39 hv hrange.2.2 ho (by omega) (junk := junk) hx c r hm hct hb hrf
          rw [this]
          unfold drawnV
          rw [iterX_succ]
        obtain ⟨tm, ct, e40, h4⟩ := built_run (P := P) (L := L) h.toBuT (b := 4) (n := n) (by omega) hf (fun p hp => by
          simp only [drH, List.mem_cons, List.not_mem_nil, or_false] at hp
          rcases hp with rfl | rfl | rfl | rfl <;> simp)
        have hcall : evCall P L (D P L) [(3, .cells true true true 1 [.int .i64 key]), (2, .cells true true true 1 [.int .i64 (sumI w)]), (1, .cells false true true 1 junk), (0, .cells true true true 1 [v])] 4 .heap (.fn (.f 40) [] []) [I64 n, .fn (.f 39) [] [.ptr 3 0, .ptr 2 0, .ptr 0 0]] =
            some (.osl (4 + 2) 0 n, bNew 4 n (.fn (.f 39) [] [.ptr 3 0, .ptr 2 0, .ptr 0 0]) (fun c r => I64 (drawnV key w (r * n + c))) (drH v w junk (iterX key (n * n))), ct) :=
          heap_eq (vals := [I64 n, .fn (.f 39) [] [.ptr 3 0, .ptr 2 0, .ptr 0 0]]) h.h40 e40 (.inr rfl) (by show resultOf _ [.t 4] = _; rw [res1, res_t, h4])
        rw [hcall]
        simp only [go_sem, Nat.reduceEqDiff, Nat.reduceAdd, Nat.reduceMul, Nat.reduceLT, Nat.reduceLeDiff, Nat.mul_one, built_tup (b := 4) (n := n) (by omega) (by omega)]
end
end VE
end
section
/- Chapter 7, integers: the program's shift. -/
set_option maxRecDepth 100000
namespace VE
open Go (IntKind)

section
variable {P : Prog} {L : Lib}

structure ShP (P : Prog) (L : Lib) : Prop extends SmP P L where
  h20 : Has P L 20 c20
  h51 : Has P L 51 c51
  h58 : Has P L 58 c58
  h34 : Has P L 34 c34

/-- The error of a number of frames, or of a shift. -/
def chkFrm (n : Int) : Int := if n < -999999999 ∨ 999999999 < n then 3 else 0

theorem s51 (h : Has P L 51 c51) (h34 : Has P L 34 c34) (h31 : Has P L 31 c31) (n : Int) : Ans P L 51 [I64 n] (I64 (chkFrm n)) := by
  unfold Ans; rw [call_eq h]
  simp only [go_sem, Nat.reduceEqDiff, Nat.reduceAdd, Nat.reduceMul, Nat.reduceLT, Nat.reduceLeDiff, Nat.mul_one, c51, s34 h34 h31, chkFrm]

theorem s58 (h : ShP P L) {v : AV} {s : List (List Int)} (hv : IsS v s) {n : Nat} (hn : s.length = n) (h0 : 0 < n) (hl : n ≤ 16) (hr : ∀ i (hi : i < s.length), s[i].length = n) {a b : Int} (ha : chkFrm a = 0) (hb : chkFrm b = 0) {c r : Nat} (hc : c < n) (hr' : r < n) :
    Ans P L 58 [I64 c, I64 r, .vptr [v], .vptr [I64 a], .vptr [I64 b]] (I64 (cellI s (c - a) (r - b))) := by
  have ha : -999999999 ≤ a ∧ a ≤ 999999999 := by unfold chkFrm at ha; split at ha <;> omega
  have hb : -999999999 ≤ b ∧ b ≤ 999999999 := by unfold chkFrm at hb; split at hb <;> omega
  have e97 := s97 h.h97 h.h134 hv hn h0 (by omega) hr (c - a) (r - b)
  unfold Ans at e97 ⊢; rw [call_eq h.h58]
  simp only [go_sem, Nat.reduceEqDiff, Nat.reduceAdd, Nat.reduceMul, Nat.reduceLT, Nat.reduceLeDiff, Nat.mul_one, c58, hv.len, hv.pu, hv.frz, hv.shut, hv.shut1, hv.res, hv.one, hv.cells, wrap64 (n := (c : Int) - a) (by omega) (by omega), wrap64 (n := (r : Int) - b) (by omega) (by omega), e97]

theorem s20 (h : ShP P L) {v : AV} {s : List (List Int)} (hv : IsS v s) (hl : s.length ≤ 1000000) (hr : ∀ i (hi : i < s.length), s[i].length ≤ 1000000) (a b : Int) :
    (firstI [chkScreen s, chkFrm a, chkFrm b] ≠ 0 → Ans P L 20 [v, I64 a, I64 b] (.tup [.nils, I64 (firstI [chkScreen s, chkFrm a, chkFrm b])])) ∧
    (firstI [chkScreen s, chkFrm a, chkFrm b] = 0 → Ans P L 20 [v, I64 a, I64 b] (.tup [tblV (fun c r => I64 (cellI s (c - a) (r - b))) s.length, I64 0])) := by
  have e4 := s4 h.toSq hv hl hr
  have hf3 : ∀ a b c : Int, Ans P L 33 [.vsl true 3 [.int .i64 a, .int .i64 b, .int .i64 c]] (I64 (firstI [a, b, c])) := fun a b c => s33 h.h33 (isI_vsl true [a, b, c]) (by simp)
  have e51 := fun n => s51 h.h51 h.h34 h.h31 n
  unfold Ans at e4 hf3 e51 ⊢
  constructor
  · intro hne
    rw [call_eq h.h20]
    simp only [go_sem, Nat.reduceEqDiff, Nat.reduceAdd, Nat.reduceMul, Nat.reduceLT, Nat.reduceLeDiff, Nat.mul_one, c20, hv.len, hv.pu, hv.frz, hv.shut, hv.shut1, hv.res, hv.one, hv.cells, e4, e51, hf3, hne]
  · intro h0
    have hs0 : chkScreen s = 0 := by
      simp only [firstI] at h0
      split at h0
      · assumption
      · assumption
    have ha0 : chkFrm a = 0 := by
      simp only [firstI, hs0, if_true] at h0
      split at h0
      · assumption
      · assumption
    have hb0 : chkFrm b = 0 := by
      simp only [firstI, hs0, ha0, if_true] at h0
      split at h0
      · assumption
      · assumption
    obtain ⟨a1, a2, a3⟩ := chkScreen_ok hs0
    have e40 := s40_pure h.toBuT a1 (by omega) (g := 58) (cap := [.vptr [v], .vptr [I64 a], .vptr [I64 b]]) (val := fun c r => I64 (cellI s (c - a) (r - b))) (by simp [pureL, pureAV, hv.pu]) (fun _ _ => rfl) (fun _ _ => rfl) (fun _ _ => rfl) (fun c r hc hr => s58 h hv rfl a1 a2 (fun i hi => (sqChk_get a3 i hi).1) ha0 hb0 hc hr)
    unfold Ans at e40
    rw [call_eq h.h20]
    simp only [go_sem, Nat.reduceEqDiff, Nat.reduceAdd, Nat.reduceMul, Nat.reduceLT, Nat.reduceLeDiff, Nat.mul_one, c20, hv.len, hv.pu, hv.frz, hv.shut, hv.shut1, hv.res, hv.one, hv.cells, e4, e51, hf3, h0, e40, tblV]
end
end VE
end
section
/- SkyDraws, on values. -/
set_option maxRecDepth 100000
namespace VE
open Go (IntKind)

section
variable {P : Prog} {L : Lib}

structure LdP (P : Prog) (L : Lib) : Prop extends DrP P L, ShP P L where
  h176 : Has P L 176 c176
  h6 : Has P L 6 c6
  h3 : Has P L 3 c3
  h21 : Has P L 21 c21
  h59 : Has P L 59 c59
  h30 : Has P L 30 c30

theorem pickK_spec {w : List Int} : ∀ {t : Int}, 0 ≤ t → t < sumI w → sumI (w.take (pickK w t)) ≤ t ∧ t < sumI (w.take (pickK w t + 1)) := by
  induction w with
  | nil => intro t h0 h; simp [sumI] at h; omega
  | cons a r ih =>
    intro t h0 h
    simp only [pickK]
    split
    · simp only [List.take_zero, sumI, List.take_succ_cons]
      omega
    · have := ih (t := t - a) (by omega) (by simp only [sumI] at h; omega)
      rw [show 1 + pickK r (t - a) = pickK r (t - a) + 1 by omega]
      simp only [List.take_succ_cons, sumI]
      omega

theorem pickK_pos {w : List Int} {t : Int} (h0 : 0 ≤ t) (h : t < sumI w) : ∃ hk : pickK w t < w.length, t - sumI (w.take (pickK w t)) < w[pickK w t] ∧ 0 ≤ t - sumI (w.take (pickK w t)) := by
  have hk := pickK_lt h h0
  have hs := pickK_spec h0 h
  rw [sumI_take hk] at hs
  exact ⟨hk, by omega, by omega⟩

/-- The memory of the law. -/
def LH (wv : AV) (key n x y : Int) : Hp := [(1, .cells true true true 2 [.int .u8 x, .int .u8 y]), (0, .cells true true true 3 [I64 key, I64 n, wv])]

section
variable {wv : AV} {w : List Int} (hw : IsI wv w) (hl : w.length ≤ 9) (ho : outI 0 1000 w = false) {sv W : AV} (p1 : pureAV sv = true) (key n x y : Int) {h : Nat}

include hw hl ho p1 in
theorem d0 (p2 : pureAV W = true) : ∀ d st, (∃ i : Nat, compact [1, 3, 5, 7, 9, 10, 83, 84, 85] st = ⟨[(1, sv), (3, .ptr 0 0), (5, .ptr 1 0), (7, W), (9, I64 h), (10, I64 (sumI (w.take i))), (83, wv), (84, I64 w.length), (85, I64 i)], LH wv key n x y, 2, 0⟩ ∧ i + d = w.length) →
    ∃ ex s', D P L (.loop [1, 3, 5, 7, 9, 10, 83, 84, 85] c176_0) st = some (ex, s') ∧ ∃ tm, s' = ⟨tm, LH wv key n x y, 2, 0⟩ ∧ ex = .exit 0 ∧ tget tm 1 = sv ∧ tget tm 3 = .ptr 0 0 ∧ tget tm 5 = .ptr 1 0 ∧ tget tm 7 = W ∧ tget tm 9 = I64 h ∧ tget tm 10 = I64 (sumI w) := by
  refine loop_can (I := fun d st => ∃ i : Nat, st = ⟨[(1, sv), (3, .ptr 0 0), (5, .ptr 1 0), (7, W), (9, I64 h), (10, I64 (sumI (w.take i))), (83, wv), (84, I64 w.length), (85, I64 i)], LH wv key n x y, 2, 0⟩ ∧ i + d = w.length)
    (Q := fun ex s' => ∃ tm, s' = ⟨tm, LH wv key n x y, 2, 0⟩ ∧ ex = .exit 0 ∧ tget tm 1 = sv ∧ tget tm 3 = .ptr 0 0 ∧ tget tm 5 = .ptr 1 0 ∧ tget tm 7 = W ∧ tget tm 9 = I64 h ∧ tget tm 10 = I64 (sumI w)) ?_
  rintro d st ⟨i, rfl, hid⟩
  by_cases hi : i < w.length
  · left
    have hb := sumI_bound (outI_take ho i)
    have hg := outI_get ho i hi
    have hlen : (w.take i).length ≤ 9 := by rw [List.length_take]; omega
    simp only [go_sem, Nat.reduceEqDiff, Nat.reduceAdd, Nat.reduceMul, Nat.reduceLT, Nat.reduceLeDiff, Nat.mul_one, c176_0, hw.len, hw.pu, hw.frz, hw.shut, hw.shut1, hw.res, hw.one, hw.cells, show (i : Int) < w.length by omega, hw.ixa hi, wrap64 (n := sumI (w.take i) + w[i]) (by omega) (by omega), show (i : Int) + 1 = ((i + 1 : Nat) : Int) from rfl, wrapN (n := i + 1) (by omega)]
    refine ⟨_, d - 1, rfl, by omega, i + 1, ?_, by omega⟩
    rw [sumI_take hi]
    simp only [go_sem, Nat.reduceEqDiff, Nat.reduceAdd, Nat.reduceMul, Nat.reduceLT, Nat.reduceLeDiff, Nat.mul_one, LH, compact0, refs_pure hw.pu, ren_pure _ hw.pu, refs_pure p1, ren_pure _ p1, refs_pure p2, ren_pure _ p2]
  · right
    have : i = w.length := by omega
    subst this
    simp only [go_sem, Nat.reduceEqDiff, Nat.reduceAdd, Nat.reduceMul, Nat.reduceLT, Nat.reduceLeDiff, Nat.mul_one, c176_0, hw.len, hw.pu, hw.frz, hw.shut, hw.shut1, hw.res, hw.one, hw.cells, show ¬ (w.length : Int) < w.length by omega, List.take_length]
    exact ⟨_, _, rfl, by simp, _, rfl, rfl, by simp only [go_sem, Nat.reduceEqDiff, Nat.reduceAdd, Nat.reduceMul, Nat.reduceLT, Nat.reduceLeDiff, Nat.mul_one], by simp only [go_sem, Nat.reduceEqDiff, Nat.reduceAdd, Nat.reduceMul, Nat.reduceLT, Nat.reduceLeDiff, Nat.mul_one], by simp only [go_sem, Nat.reduceEqDiff, Nat.reduceAdd, Nat.reduceMul, Nat.reduceLT, Nat.reduceLeDiff, Nat.mul_one], by simp only [go_sem, Nat.reduceEqDiff, Nat.reduceAdd, Nat.reduceMul, Nat.reduceLT, Nat.reduceLeDiff, Nat.mul_one], by simp only [go_sem, Nat.reduceEqDiff, Nat.reduceAdd, Nat.reduceMul, Nat.reduceLT, Nat.reduceLeDiff, Nat.mul_one], by simp only [go_sem, Nat.reduceEqDiff, Nat.reduceAdd, Nat.reduceMul, Nat.reduceLT, Nat.reduceLeDiff, Nat.mul_one]⟩

include hw hl p1 in
/-- The cells of a row. -/
theorem d1 (p2 : pureAV W = true) (hodd : w.length = 2 * h + 1) {rv : AV} {l : List Int} (hv : IsI rv l) (hll : l.length ≤ 6) (hcell : ∀ c (hc : c < l.length), ∃ (k : Nat) (hk : k < w.length), l[c] = (k : Int) - h ∧ w[k] ≠ 0) {m r : Nat} {tot : Int} :
    ∀ d st, (∃ c : Nat, compact [1, 3, 5, 7, 9, 10, 94, 95, 109, 110, 111] st = ⟨[(1, sv), (3, .ptr 0 0), (5, .ptr 1 0), (7, W), (9, I64 h), (10, I64 tot), (94, I64 m), (95, I64 r), (109, rv), (110, I64 l.length), (111, I64 c)], LH wv key n x y, 2, 0⟩ ∧ c + d = l.length) →
    ∃ ex s', D P L (.loop [1, 3, 5, 7, 9, 10, 94, 95, 109, 110, 111] c176_1) st = some (ex, s') ∧ ∃ tm, s' = ⟨tm, LH wv key n x y, 2, 0⟩ ∧ ex = .exit 4 ∧ tget tm 1 = sv ∧ tget tm 3 = .ptr 0 0 ∧ tget tm 5 = .ptr 1 0 ∧ tget tm 7 = W ∧ tget tm 9 = I64 h ∧ tget tm 10 = I64 tot ∧ tget tm 94 = I64 m ∧ tget tm 95 = I64 r := by
  refine loop_can (I := fun d st => ∃ c : Nat, st = ⟨[(1, sv), (3, .ptr 0 0), (5, .ptr 1 0), (7, W), (9, I64 h), (10, I64 tot), (94, I64 m), (95, I64 r), (109, rv), (110, I64 l.length), (111, I64 c)], LH wv key n x y, 2, 0⟩ ∧ c + d = l.length)
    (Q := fun ex s' => ∃ tm, s' = ⟨tm, LH wv key n x y, 2, 0⟩ ∧ ex = .exit 4 ∧ tget tm 1 = sv ∧ tget tm 3 = .ptr 0 0 ∧ tget tm 5 = .ptr 1 0 ∧ tget tm 7 = W ∧ tget tm 9 = I64 h ∧ tget tm 10 = I64 tot ∧ tget tm 94 = I64 m ∧ tget tm 95 = I64 r) ?_
  rintro d st ⟨c, rfl, hid⟩
  by_cases hi : c < l.length
  · left
    obtain ⟨k, hk, e1, e2⟩ := hcell c hi
    simp only [go_sem, Nat.reduceEqDiff, Nat.reduceAdd, Nat.reduceMul, Nat.reduceLT, Nat.reduceLeDiff, Nat.mul_one, c176_1, LH, hw.len, hw.pu, hw.frz, hw.shut, hw.shut1, hw.res, hw.one, hw.cells, hv.len, hv.pu, hv.frz, hv.shut, hv.shut1, hv.res, hv.one, hv.cells, show (c : Int) < l.length by omega, hv.ixa hi, e1, off_ptr, Nat.zero_add, drop1, drop2, wrap64 (n := 0 - (h : Int)) (by omega) (by omega), show ¬ (k : Int) - h < 0 - (h : Int) by omega, show ¬ (h : Int) < (k : Int) - h by omega, Int.sub_add_cancel, wrap64 (n := (k : Int)) (by omega) (by omega), hw.ixa hk, e2, show (c : Int) + 1 = ((c + 1 : Nat) : Int) from rfl, wrapN (n := c + 1) (by omega)]
    refine ⟨_, d - 1, rfl, by omega, c + 1, ?_, by omega⟩
    simp only [go_sem, Nat.reduceEqDiff, Nat.reduceAdd, Nat.reduceMul, Nat.reduceLT, Nat.reduceLeDiff, Nat.mul_one, LH, compact0, refs_pure hw.pu, ren_pure _ hw.pu, refs_pure p1, ren_pure _ p1, refs_pure p2, ren_pure _ p2, refs_pure hv.pu, ren_pure _ hv.pu]
  · right
    have : c = l.length := by omega
    subst this
    simp only [go_sem, Nat.reduceEqDiff, Nat.reduceAdd, Nat.reduceMul, Nat.reduceLT, Nat.reduceLeDiff, Nat.mul_one, c176_1, hw.len, hw.pu, hw.frz, hw.shut, hw.shut1, hw.res, hw.one, hw.cells, show ¬ (l.length : Int) < l.length by omega]
    exact ⟨_, _, rfl, by simp, _, rfl, rfl, by simp only [go_sem, Nat.reduceEqDiff, Nat.reduceAdd, Nat.reduceMul, Nat.reduceLT, Nat.reduceLeDiff, Nat.mul_one], by simp only [go_sem, Nat.reduceEqDiff, Nat.reduceAdd, Nat.reduceMul, Nat.reduceLT, Nat.reduceLeDiff, Nat.mul_one], by simp only [go_sem, Nat.reduceEqDiff, Nat.reduceAdd, Nat.reduceMul, Nat.reduceLT, Nat.reduceLeDiff, Nat.mul_one], by simp only [go_sem, Nat.reduceEqDiff, Nat.reduceAdd, Nat.reduceMul, Nat.reduceLT, Nat.reduceLeDiff, Nat.mul_one], by simp only [go_sem, Nat.reduceEqDiff, Nat.reduceAdd, Nat.reduceMul, Nat.reduceLT, Nat.reduceLeDiff, Nat.mul_one], by simp only [go_sem, Nat.reduceEqDiff, Nat.reduceAdd, Nat.reduceMul, Nat.reduceLT, Nat.reduceLeDiff, Nat.mul_one], by simp only [go_sem, Nat.reduceEqDiff, Nat.reduceAdd, Nat.reduceMul, Nat.reduceLT, Nat.reduceLeDiff, Nat.mul_one], by simp only [go_sem, Nat.reduceEqDiff, Nat.reduceAdd, Nat.reduceMul, Nat.reduceLT, Nat.reduceLeDiff, Nat.mul_one]⟩

include hw hl p1 in
/-- The rows. -/
theorem d2 (hodd : w.length = 2 * h + 1) {T : List (List Int)} (hT : IsS W T) {m : Nat} (hm : m ≤ 6) (hTl : T.length = m) (hrow : ∀ r (hr : r < T.length), T[r].length = m ∧ ∀ c (hc : c < T[r].length), ∃ (k : Nat) (hk : k < w.length), T[r][c] = (k : Int) - h ∧ w[k] ≠ 0) {tot : Int} :
    ∀ d st, (∃ r : Nat, compact [1, 3, 5, 7, 9, 10, 94, 95] st = ⟨[(1, sv), (3, .ptr 0 0), (5, .ptr 1 0), (7, W), (9, I64 h), (10, I64 tot), (94, I64 m), (95, I64 r)], LH wv key m x y, 2, 0⟩ ∧ r + d = m) →
    ∃ ex s', D P L (.loop [1, 3, 5, 7, 9, 10, 94, 95] c176_2) st = some (ex, s') ∧ ∃ tm, s' = ⟨tm, LH wv key m x y, 2, 0⟩ ∧ ex = .exit 2 ∧ tget tm 1 = sv ∧ tget tm 3 = .ptr 0 0 ∧ tget tm 5 = .ptr 1 0 ∧ tget tm 7 = W ∧ tget tm 9 = I64 h ∧ tget tm 10 = I64 tot := by
  refine loop_can (I := fun d st => ∃ r : Nat, st = ⟨[(1, sv), (3, .ptr 0 0), (5, .ptr 1 0), (7, W), (9, I64 h), (10, I64 tot), (94, I64 m), (95, I64 r)], LH wv key m x y, 2, 0⟩ ∧ r + d = m)
    (Q := fun ex s' => ∃ tm, s' = ⟨tm, LH wv key m x y, 2, 0⟩ ∧ ex = .exit 2 ∧ tget tm 1 = sv ∧ tget tm 3 = .ptr 0 0 ∧ tget tm 5 = .ptr 1 0 ∧ tget tm 7 = W ∧ tget tm 9 = I64 h ∧ tget tm 10 = I64 tot) ?_
  rintro d st ⟨r, rfl, hid⟩
  by_cases hi : r < m
  · left
    have hi' : r < T.length := by omega
    obtain ⟨rv, rest, hr1, hr2⟩ := hT.ixa hi'
    obtain ⟨g1, g2⟩ := hrow r hi'
    simp only [go_sem, Nat.reduceEqDiff, Nat.reduceAdd, Nat.reduceMul, Nat.reduceLT, Nat.reduceLeDiff, Nat.mul_one, c176_2, LH, hw.len, hw.pu, hw.frz, hw.shut, hw.shut1, hw.res, hw.one, hw.cells, hT.len, hT.pu, hT.frz, hT.shut, hT.shut1, hT.res, hT.one, hT.cells, show (r : Int) < m by omega, hr2, hr1.len, hr1.pu, hr1.frz, hr1.shut, hr1.shut1, hr1.res, hr1.one, hr1.cells, g1, off_ptr, Nat.zero_add, drop1, drop2]
    generalize hq : D P L (.loop [1, 3, 5, 7, 9, 10, 94, 95, 109, 110, 111] c176_1) _ = q'
    obtain ⟨ex, st, rfl, tm, rfl, rfl, t1, t3, t5, t7, t9, t10, t94, t95⟩ := of_key hq (d1 (P := P) (L := L) hw hl p1 key m x y hT.pu hodd hr1 (by omega) g2 (m := m) (r := r) (tot := tot) m) ⟨0, by
      simp only [go_sem, Nat.reduceEqDiff, Nat.reduceAdd, Nat.reduceMul, Nat.reduceLT, Nat.reduceLeDiff, Nat.mul_one, LH, compact0, g1, refs_pure hw.pu, ren_pure _ hw.pu, refs_pure p1, ren_pure _ p1, refs_pure hT.pu, ren_pure _ hT.pu, refs_pure hr1.pu, ren_pure _ hr1.pu]
      rfl, by omega⟩
    simp only [go_sem, Nat.reduceEqDiff, Nat.reduceAdd, Nat.reduceMul, Nat.reduceLT, Nat.reduceLeDiff, Nat.mul_one, LH, compact0, t1, t3, t5, t7, t9, t10, t94, t95, refs_pure hw.pu, ren_pure _ hw.pu, refs_pure p1, ren_pure _ p1, refs_pure hT.pu, ren_pure _ hT.pu, show (r : Int) + 1 = ((r + 1 : Nat) : Int) from rfl, wrapN (n := r + 1) (by omega)]
    refine ⟨_, d - 1, rfl, by omega, r + 1, ?_, by omega⟩
    simp only [go_sem, Nat.reduceEqDiff, Nat.reduceAdd, Nat.reduceMul, Nat.reduceLT, Nat.reduceLeDiff, Nat.mul_one, LH, compact0, refs_pure hw.pu, ren_pure _ hw.pu, refs_pure p1, ren_pure _ p1, refs_pure hT.pu, ren_pure _ hT.pu]
  · right
    have : r = m := by omega
    subst this
    simp only [go_sem, Nat.reduceEqDiff, Nat.reduceAdd, Nat.reduceMul, Nat.reduceLT, Nat.reduceLeDiff, Nat.mul_one, c176_2, hw.len, hw.pu, hw.frz, hw.shut, hw.shut1, hw.res, hw.one, hw.cells, show ¬ (r : Int) < r by omega]
    exact ⟨_, _, rfl, by simp, _, rfl, rfl, by simp only [go_sem, Nat.reduceEqDiff, Nat.reduceAdd, Nat.reduceMul, Nat.reduceLT, Nat.reduceLeDiff, Nat.mul_one], by simp only [go_sem, Nat.reduceEqDiff, Nat.reduceAdd, Nat.reduceMul, Nat.reduceLT, Nat.reduceLeDiff, Nat.mul_one], by simp only [go_sem, Nat.reduceEqDiff, Nat.reduceAdd, Nat.reduceMul, Nat.reduceLT, Nat.reduceLeDiff, Nat.mul_one], by simp only [go_sem, Nat.reduceEqDiff, Nat.reduceAdd, Nat.reduceMul, Nat.reduceLT, Nat.reduceLeDiff, Nat.mul_one], by simp only [go_sem, Nat.reduceEqDiff, Nat.reduceAdd, Nat.reduceMul, Nat.reduceLT, Nat.reduceLeDiff, Nat.mul_one], by simp only [go_sem, Nat.reduceEqDiff, Nat.reduceAdd, Nat.reduceMul, Nat.reduceLT, Nat.reduceLeDiff, Nat.mul_one]⟩

include hw hl ho p1 in
/-- The first cell. -/
theorem d3 (hodd : w.length = 2 * h + 1) {T : List (List Int)} (hT : IsS W T) (hT0 : 0 < T.length) (hT1 : 0 < T[0].length) {k : Nat} (hk : k < w.length) (h00 : T[0][0] = (k : Int) - h) {t : Int} (ht : 0 ≤ t ∧ t ≤ 100000) :
    ∀ d st, (∃ j : Nat, compact [1, 3, 5, 7, 9, 16, 17] st = ⟨[(1, sv), (3, .ptr 0 0), (5, .ptr 1 0), (7, W), (9, I64 h), (16, I64 (t - sumI (w.take j))), (17, I64 ((j : Int) - h))], LH wv key n x y, 2, 0⟩ ∧ j + d = k) →
    ∃ ex s', D P L (.loop [1, 3, 5, 7, 9, 16, 17] c176_3) st = some (ex, s') ∧ ∃ tm, s' = ⟨tm, LH wv key n x y, 2, 0⟩ ∧ ex = .exit 6 ∧ tget tm 1 = sv ∧ tget tm 3 = .ptr 0 0 ∧ tget tm 5 = .ptr 1 0 ∧ tget tm 7 = W ∧ tget tm 9 = I64 h ∧ tget tm 16 = I64 (t - sumI (w.take k)) := by
  obtain ⟨rv, rest, hr1, hr2⟩ := hT.ixa hT0
  have hr3 := hr1.ixa hT1
  refine loop_can (I := fun d st => ∃ j : Nat, st = ⟨[(1, sv), (3, .ptr 0 0), (5, .ptr 1 0), (7, W), (9, I64 h), (16, I64 (t - sumI (w.take j))), (17, I64 ((j : Int) - h))], LH wv key n x y, 2, 0⟩ ∧ j + d = k)
    (Q := fun ex s' => ∃ tm, s' = ⟨tm, LH wv key n x y, 2, 0⟩ ∧ ex = .exit 6 ∧ tget tm 1 = sv ∧ tget tm 3 = .ptr 0 0 ∧ tget tm 5 = .ptr 1 0 ∧ tget tm 7 = W ∧ tget tm 9 = I64 h ∧ tget tm 16 = I64 (t - sumI (w.take k))) ?_
  rintro d st ⟨j, rfl, hid⟩
  by_cases hi : j < k
  · left
    have hj : j < w.length := by omega
    have hb := sumI_bound (outI_take ho j)
    have hg := outI_get ho j hj
    have hlen : (w.take j).length ≤ 9 := by rw [List.length_take]; omega
    simp only [go_sem, Nat.reduceEqDiff, Nat.reduceAdd, Nat.reduceMul, Nat.reduceLT, Nat.reduceLeDiff, Nat.mul_one, c176_3, LH, hw.len, hw.pu, hw.frz, hw.shut, hw.shut1, hw.res, hw.one, hw.cells, hT.len, hT.pu, hT.frz, hT.shut, hT.shut1, hT.res, hT.one, hT.cells, hr2, hr3, h00, show (j : Int) - h < (k : Int) - h by omega, off_ptr, Nat.zero_add, drop1, drop2, Int.sub_add_cancel, wrap64 (n := (j : Int)) (by omega) (by omega), hw.ixa hj, wrap64 (n := t - sumI (w.take j) - w[j]) (by omega) (by omega), wrap64 (n := (j : Int) - h + 1) (by omega) (by omega)]
    refine ⟨_, d - 1, rfl, by omega, j + 1, ?_, by omega⟩
    rw [sumI_take hj, show t - (sumI (w.take j) + w[j]) = t - sumI (w.take j) - w[j] by omega, show ((j + 1 : Nat) : Int) - h = (j : Int) - h + 1 by omega]
    simp only [go_sem, Nat.reduceEqDiff, Nat.reduceAdd, Nat.reduceMul, Nat.reduceLT, Nat.reduceLeDiff, Nat.mul_one, LH, compact0, refs_pure hw.pu, ren_pure _ hw.pu, refs_pure p1, ren_pure _ p1, refs_pure hT.pu, ren_pure _ hT.pu]
  · right
    have : j = k := by omega
    subst this
    simp only [go_sem, Nat.reduceEqDiff, Nat.reduceAdd, Nat.reduceMul, Nat.reduceLT, Nat.reduceLeDiff, Nat.mul_one, c176_3, LH, hw.len, hw.pu, hw.frz, hw.shut, hw.shut1, hw.res, hw.one, hw.cells, hT.len, hT.pu, hT.frz, hT.shut, hT.shut1, hT.res, hT.one, hT.cells, hr2, hr3, h00, show ¬ (j : Int) - h < (j : Int) - h by omega]
    exact ⟨_, _, rfl, by simp, _, rfl, rfl, by simp only [go_sem, Nat.reduceEqDiff, Nat.reduceAdd, Nat.reduceMul, Nat.reduceLT, Nat.reduceLeDiff, Nat.mul_one], by simp only [go_sem, Nat.reduceEqDiff, Nat.reduceAdd, Nat.reduceMul, Nat.reduceLT, Nat.reduceLeDiff, Nat.mul_one], by simp only [go_sem, Nat.reduceEqDiff, Nat.reduceAdd, Nat.reduceMul, Nat.reduceLT, Nat.reduceLeDiff, Nat.mul_one], by simp only [go_sem, Nat.reduceEqDiff, Nat.reduceAdd, Nat.reduceMul, Nat.reduceLT, Nat.reduceLeDiff, Nat.mul_one], by simp only [go_sem, Nat.reduceEqDiff, Nat.reduceAdd, Nat.reduceMul, Nat.reduceLT, Nat.reduceLeDiff, Nat.mul_one], by simp only [go_sem, Nat.reduceEqDiff, Nat.reduceAdd, Nat.reduceMul, Nat.reduceLT, Nat.reduceLeDiff, Nat.mul_one]⟩
end

theorem chkDrawn_ok {key side : Int} {w : List Int} (h0 : chkDrawn key side w = 0) : (1 ≤ key ∧ key ≤ 2147483646) ∧ w.length ≤ 33 ∧ w.length % 2 = 1 ∧ outI 0 1000 w = false ∧ sumI w ≠ 0 := by
  unfold chkDrawn at h0
  by_cases g1 : key < 1 ∨ 2147483646 < key
  · simp [g1] at h0
  · rw [if_neg g1] at h0
    split at h0
    · simp at h0
    · split at h0
      · simp at h0
      · split at h0
        · simp at h0
        · split at h0
          · simp at h0
          · split at h0
            · simp at h0
            · rename_i g6
              split at h0
              · simp at h0
              · rename_i g7
                exact ⟨by omega, by omega, by omega, by simpa using g6, g7⟩

theorem outT_of : ∀ {l : List (List Int)}, (∀ r, r ∈ l → ∀ x, x ∈ r → -1000 ≤ x ∧ x ≤ 1000) → outT l = false
  | [], _ => rfl
  | r :: l, h => by
    rw [outT, outI_of (h r (by simp)), outT_of (fun r' hr => h r' (by simp [hr]))]
    rfl

theorem smRows_ker {s : List (List Int)} {m : Nat} (hs : sqChk m (-1000) 1000 s = 0) {a b : Nat} (ha : a < 3) (hb : b < 3) (n r : Nat) : outT (smRows s (ker a b) n r) = false := by
  refine outT_of fun l hl x hx => ?_
  simp only [smRows, smRow, List.mem_map] at hl
  obtain ⟨i, _, rfl⟩ := hl
  obtain ⟨j, _, rfl⟩ := List.mem_map.1 hx
  rw [smooth_ker ha hb]
  exact cellI_bound hs (by decide) _ _

theorem frz3 (a0 a1 a2 b0 b1 b2 c0 c1 c2 : AV) (H : Hp) :
    frzO 0 3 (frzQ 996 5 ((5, .cells true false true 1 [.osl 2 0 3, .osl 3 0 3, .osl 4 0 3]) :: (4, .cells true true true 1 [c0, c1, c2]) :: (3, .cells true true true 1 [b0, b1, b2]) :: (2, .cells true true true 1 [a0, a1, a2]) :: H) (some (.cells true false true 1 [.osl 2 0 3, .osl 3 0 3, .osl 4 0 3]))) =
      some (.vsl true 3 [.vsl true 3 [a0, a1, a2], .vsl true 3 [b0, b1, b2], .vsl true 3 [c0, c1, c2]],
        (5, .cells false false true 1 [.osl 2 0 3, .osl 3 0 3, .osl 4 0 3]) :: (4, .cells false true true 1 [c0, c1, c2]) :: (3, .cells false true true 1 [b0, b1, b2]) :: (2, .cells false true true 1 [a0, a1, a2]) :: H) := rfl

def kerV (a b : Nat) : AV := .vsl true 3 ((ker a b).map fun r => .vsl true 3 (r.map I64))
theorem kerV_S {a b : Nat} : IsS (kerV a b) (ker a b) := by
  have q : ∀ j, IsI (.vsl true 3 (((List.range 3).map fun i => if j = b ∧ i = a then (1 : Int) else 0).map I64)) ((List.range 3).map fun i => if j = b ∧ i = a then (1 : Int) else 0) := fun j => by
    have := isI_vsl true ((List.range 3).map fun i => if j = b ∧ i = a then (1 : Int) else 0)
    rwa [show ((List.range 3).map fun i => if j = b ∧ i = a then (1 : Int) else 0).length = 3 by simp] at this
  refine ⟨(ker a b).map fun r => .vsl true 3 (r.map I64), ?_, ?_⟩
  · have h1 := isL_vsl true ((ker a b).map fun r => AV.vsl true 3 (r.map I64))
    rwa [show ((ker a b).map fun r => AV.vsl true 3 (r.map I64)).length = 3 by simp [ker]] at h1
  · exact ⟨q 0, q 1, q 2, trivial⟩

theorem law_draws (h : LdP P L) (hA : callPure P L (D P L) 1 [] = some (.bool true)) {wv sv : AV} {w : List Int} {s : List (List Int)} (hw : IsI wv w) (hs : IsS sv s) (key side : Int) {x y : Int} (hx : 0 ≤ x ∧ x < 256) (hy : 0 ≤ y ∧ y < 256) :
    Ans P L 176 [.agg [I64 key, I64 side, wv], sv, .agg [.int .u8 x, .int .u8 y]] (.bool true) := by
  have e6 := s6 h.h6 h.h30 hw key side
  have e3 := s3 h.h3 h.h30 hs
  unfold Ans at e6 e3 ⊢
  rw [call_eq h.h176]
  by_cases c1 : chkDrawn key side w = 0
  · by_cases c2 : 6 < side
    · simp only [go_sem, Nat.reduceEqDiff, Nat.reduceAdd, Nat.reduceMul, Nat.reduceLT, Nat.reduceLeDiff, Nat.mul_one, c176, boxV_n, hw.len, hw.pu, hw.frz, hw.shut, hw.shut1, hw.res, hw.one, hw.cells, hs.len, hs.pu, hs.frz, hs.shut, hs.shut1, hs.res, hs.one, hs.cells, hA, e6, c1, off_ptr, Nat.zero_add, drop1, drop2, show (6 : Int) < side from c2]
    · by_cases c3 : 9 < w.length
      · simp only [go_sem, Nat.reduceEqDiff, Nat.reduceAdd, Nat.reduceMul, Nat.reduceLT, Nat.reduceLeDiff, Nat.mul_one, c176, boxV_n, hw.len, hw.pu, hw.frz, hw.shut, hw.shut1, hw.res, hw.one, hw.cells, hs.len, hs.pu, hs.frz, hs.shut, hs.shut1, hs.res, hs.one, hs.cells, hA, e6, c1, off_ptr, Nat.zero_add, drop1, drop2, c2, show (9 : Int) < w.length by omega]
      · by_cases c4 : 6 < s.length
        · simp only [go_sem, Nat.reduceEqDiff, Nat.reduceAdd, Nat.reduceMul, Nat.reduceLT, Nat.reduceLeDiff, Nat.mul_one, c176, boxV_n, hw.len, hw.pu, hw.frz, hw.shut, hw.shut1, hw.res, hw.one, hw.cells, hs.len, hs.pu, hs.frz, hs.shut, hs.shut1, hs.res, hs.one, hs.cells, hA, e6, c1, off_ptr, Nat.zero_add, drop1, drop2, c2, show ¬ (9 : Int) < w.length by omega, show (6 : Int) < s.length by omega]
        · by_cases c5 : chkScreen s = 0
          · obtain ⟨-, e5⟩ := s5 h.toDrP hw (by omega) key side
            obtain ⟨n, rfl, n0, n1, e5⟩ := e5 c1
            have hT := tblV_S (n := n) (fun c r => drawnV key w (r * n + c))
            generalize hW : tblV (fun c r => I64 (drawnV key w (r * n + c))) n = W at e5 hT
            unfold Ans at e5
            have hd2 : (2 : Int) ≠ 0 := by decide
            have hq2 : (w.length : Int).tdiv 2 = (w.length / 2 : Nat) := by rw [Int.tdiv_eq_ediv_of_nonneg (by omega)]; rfl
            simp only [go_sem, Nat.reduceEqDiff, Nat.reduceAdd, Nat.reduceMul, Nat.reduceLT, Nat.reduceLeDiff, Nat.mul_one, c176, boxV_n, hw.len, hw.pu, hw.frz, hw.shut, hw.shut1, hw.res, hw.one, hw.cells, hs.len, hs.pu, hs.frz, hs.shut, hs.shut1, hs.res, hs.one, hs.cells, hA, e6, c1, off_ptr, Nat.zero_add, drop1, drop2, c2, show ¬ (9 : Int) < w.length by omega, show ¬ (6 : Int) < s.length by omega, e3, c5, e5, hT.len, hT.pu, hT.frz, hT.shut, hT.shut1, hT.res, hT.one, hT.cells, tbl_len, bin_quo _ _ _ hd2, hq2, wrapN (n := w.length / 2) (by omega)]
            obtain ⟨k1, k2, k3, ho, k5⟩ := chkDrawn_ok c1
            have hb := sumI_bound ho
            have hodd : w.length = 2 * (w.length / 2) + 1 := by omega
            have hpick : ∀ k, 0 ≤ iterX key (k + 1) % sumI w ∧ iterX key (k + 1) % sumI w < sumI w := fun k => ⟨Int.emod_nonneg _ k5, Int.emod_lt_of_pos _ (by omega)⟩
            have hcell : ∀ k, ∃ (j : Nat) (hj : j < w.length), drawnV key w k = (j : Int) - (w.length / 2 : Nat) ∧ w[j] ≠ 0 := fun k => by
              obtain ⟨hj, q1, q2⟩ := pickK_pos (hpick k).1 (hpick k).2
              exact ⟨_, hj, rfl, by omega⟩
            have hlen := tbl_len n (fun c r => drawnV key w (r * n + c))
            generalize hq : D P L (.loop [1, 3, 5, 7, 9, 10, 83, 84, 85] c176_0) _ = q'
            obtain ⟨ex, st, rfl, tm, rfl, rfl, t1, t3, t5, t7, t9, t10⟩ := of_key hq (d0 (P := P) (L := L) hw (by omega) ho hs.pu key n x y (h := w.length / 2) hT.pu w.length) ⟨0, by
              simp only [go_sem, Nat.reduceEqDiff, Nat.reduceAdd, Nat.reduceMul, Nat.reduceLT, Nat.reduceLeDiff, Nat.mul_one, LH, compact0, List.take_zero, sumI, refs_pure hw.pu, ren_pure _ hw.pu, refs_pure hs.pu, ren_pure _ hs.pu, refs_pure hT.pu, ren_pure _ hT.pu]
              rfl, by omega⟩
            clear hq
            simp only [go_sem, Nat.reduceEqDiff, Nat.reduceAdd, Nat.reduceMul, Nat.reduceLT, Nat.reduceLeDiff, Nat.mul_one, LH, compact0, t1, t3, t5, t7, t9, t10, refs_pure hw.pu, ren_pure _ hw.pu, refs_pure hs.pu, ren_pure _ hs.pu, refs_pure hT.pu, ren_pure _ hT.pu, hw.len, hw.pu, hw.frz, hw.shut, hw.shut1, hw.res, hw.one, hw.cells, hT.len, hT.pu, hT.frz, hT.shut, hT.shut1, hT.res, hT.one, hT.cells, tbl_len]
            clear t1 t3 t5 t7 t9 t10 tm
            generalize hq : D P L (.loop [1, 3, 5, 7, 9, 10, 94, 95] c176_2) _ = q'
            obtain ⟨ex, st, rfl, tm, rfl, rfl, t1, t3, t5, t7, t9, t10⟩ := of_key hq (d2 (P := P) (L := L) hw (by omega) hs.pu key x y (h := w.length / 2) hodd hT (m := n) (by omega) hlen (fun r hr => by
              have hr' : r < n := by rw [← hlen]; exact hr
              refine ⟨by rw [tbl_row hr']; simp, fun c hc => ?_⟩
              obtain ⟨j, hj, q1, q2⟩ := hcell (r * n + c)
              refine ⟨j, hj, ?_, q2⟩
              rw [← q1]
              simp only [tbl, List.getElem_map, List.getElem_range]) (tot := sumI w) n) ⟨0, by
              simp only [go_sem, Nat.reduceEqDiff, Nat.reduceAdd, Nat.reduceMul, Nat.reduceLT, Nat.reduceLeDiff, Nat.mul_one, LH, compact0, refs_pure hw.pu, ren_pure _ hw.pu, refs_pure hs.pu, ren_pure _ hs.pu, refs_pure hT.pu, ren_pure _ hT.pu]
              rfl, by omega⟩
            clear hq
            have hx1 := nextX_bound key
            have hm1 : (39373 * key).tmod 2147483647 = nextX key := by rw [Int.tmod_eq_emod_of_nonneg (by omega)]; rfl
            have hm2 : (nextX key).tmod (sumI w) = nextX key % sumI w := by rw [Int.tmod_eq_emod_of_nonneg (by omega)]
            have hd1 : (2147483647 : Int) ≠ 0 := by decide
            simp only [go_sem, Nat.reduceEqDiff, Nat.reduceAdd, Nat.reduceMul, Nat.reduceLT, Nat.reduceLeDiff, Nat.mul_one, LH, compact0, t1, t3, t5, t7, t9, t10, refs_pure hw.pu, ren_pure _ hw.pu, refs_pure hs.pu, ren_pure _ hs.pu, refs_pure hT.pu, ren_pure _ hT.pu, hw.len, hw.pu, hw.frz, hw.shut, hw.shut1, hw.res, hw.one, hw.cells, hT.len, hT.pu, hT.frz, hT.shut, hT.shut1, hT.res, hT.one, hT.cells, off_ptr, Nat.zero_add, drop1, drop2, wrap64 (n := 39373 * key) (by omega) (by omega), bin_rem _ _ _ hd1, hm1, bin_rem _ _ _ k5, hm2, wrap64 (n := 0 - ((w.length / 2 : Nat) : Int)) (by omega) (by omega)]
            clear t1 t3 t5 t7 t9 t10 tm
            have hp0 := hpick 0
            rw [show iterX key (0 + 1) = nextX key from rfl] at hp0
            obtain ⟨hj, q1, q2⟩ := pickK_pos hp0.1 hp0.2
            have h00 : drawnV key w 0 = (pickK w (nextX key % sumI w) : Int) - (w.length / 2 : Nat) := rfl
            generalize nextX key % sumI w = t0 at hp0 hj q1 q2 h00 ⊢
            generalize hkk : pickK w t0 = k at hj q1 q2 h00
            have hT0 : 0 < (tbl n (fun c r => drawnV key w (r * n + c))).length := by rw [hlen]; exact n0
            have hT1 : 0 < ((tbl n (fun c r => drawnV key w (r * n + c)))[0]).length := by rw [tbl_row n0]; simpa using n0
            have hT2 : ((tbl n (fun c r => drawnV key w (r * n + c)))[0])[0] = (k : Int) - (w.length / 2 : Nat) := by
              rw [← h00]
              simp only [tbl, List.getElem_map, List.getElem_range, Nat.zero_mul, Nat.add_zero]
            generalize hq : D P L (.loop [1, 3, 5, 7, 9, 16, 17] c176_3) _ = q'
            obtain ⟨ex, st, rfl, tm, rfl, rfl, t1, t3, t5, t7, t9, t16⟩ := of_key hq (d3 (P := P) (L := L) hw (by omega) ho hs.pu key n x y (h := w.length / 2) hodd hT hT0 hT1 hj hT2 (t := t0) (by omega) k) ⟨0, by
              simp only [go_sem, Nat.reduceEqDiff, Nat.reduceAdd, Nat.reduceMul, Nat.reduceLT, Nat.reduceLeDiff, Nat.mul_one, LH, compact0, List.take_zero, sumI, Int.sub_zero, Int.zero_sub, refs_pure hw.pu, ren_pure _ hw.pu, refs_pure hs.pu, ren_pure _ hs.pu, refs_pure hT.pu, ren_pure _ hT.pu]
              simp, by omega⟩
            clear hq
            obtain ⟨rv, rest, hr1, hr2⟩ := hT.ixa hT0
            have hr3 := hr1.ixa hT1
            rw [hT2] at hr3
            simp only [go_sem, Nat.reduceEqDiff, Nat.reduceAdd, Nat.reduceMul, Nat.reduceLT, Nat.reduceLeDiff, Nat.mul_one, LH, compact0, t1, t3, t5, t7, t9, t16, refs_pure hw.pu, ren_pure _ hw.pu, refs_pure hs.pu, ren_pure _ hs.pu, refs_pure hT.pu, ren_pure _ hT.pu, hw.len, hw.pu, hw.frz, hw.shut, hw.shut1, hw.res, hw.one, hw.cells, hT.len, hT.pu, hT.frz, hT.shut, hT.shut1, hT.res, hT.one, hT.cells, off_ptr, Nat.zero_add, drop1, drop2, show ¬ t0 - sumI (w.take k) < 0 by omega, hr2, hr3, Int.sub_add_cancel, wrap64 (n := (k : Int)) (by omega) (by omega), hw.ixa hj, show ¬ w[k] ≤ t0 - sumI (w.take k) by omega]
            clear t1 t3 t5 t7 t9 t16 tm
            have i0 : ixpOp 2 1 0 (.ptr 1 0) = some (.ptr 1 0) := rfl
            have i1 : ixpOp 2 1 1 (.ptr 1 0) = some (.ptr 1 1) := rfl
            have cvx : cvOp (.toInt .i64) (.int .u8 x) = some (.int .i64 x) := by
              show some (AV.int .i64 (IntKind.wrap .i64 x)) = _
              rw [wrap64 (by omega) (by omega)]
            have cvy : cvOp (.toInt .i64) (.int .u8 y) = some (.int .i64 y) := by
              show some (AV.int .i64 (IntKind.wrap .i64 y)) = _
              rw [wrap64 (by omega) (by omega)]
            have hd3 : (3 : Int) ≠ 0 := by decide
            obtain ⟨a, ha, ea⟩ : ∃ a : Nat, a < 3 ∧ x.tmod 3 = a := ⟨(x % 3).toNat, by omega, by rw [Int.tmod_eq_emod_of_nonneg hx.1]; omega⟩
            obtain ⟨b, hb', eb⟩ : ∃ b : Nat, b < 3 ∧ y.tmod 3 = b := ⟨(y % 3).toNat, by omega, by rw [Int.tmod_eq_emod_of_nonneg hy.1]; omega⟩
            have as0 : asNat (.int .i64 0) = some 0 := rfl
            have as1 : asNat (.int .i64 1) = some 1 := rfl
            have ix0 : ∀ id, ixaOp 1 0 (.osl id 0 3) = some (.ptr id 0) := fun _ => rfl
            have ix1 : ∀ id, ixaOp 1 1 (.osl id 0 3) = some (.ptr id 1) := fun _ => rfl
            have ix2 : ∀ id, ixaOp 1 2 (.osl id 0 3) = some (.ptr id 2) := fun _ => rfl
            have sc0 : ∀ hp ct id, stC hp ct id 0 1 [.int .i64 1] (some (.cells true true true 1 [.int .i64 0, .int .i64 0, .int .i64 0])) = some (.tup [], hset hp id (.cells true true true 1 [.int .i64 1, .int .i64 0, .int .i64 0]), ct) := fun _ _ _ => rfl
            have sc1 : ∀ hp ct id, stC hp ct id 1 1 [.int .i64 1] (some (.cells true true true 1 [.int .i64 0, .int .i64 0, .int .i64 0])) = some (.tup [], hset hp id (.cells true true true 1 [.int .i64 0, .int .i64 1, .int .i64 0]), ct) := fun _ _ _ => rfl
            have sc2 : ∀ hp ct id, stC hp ct id 2 1 [.int .i64 1] (some (.cells true true true 1 [.int .i64 0, .int .i64 0, .int .i64 0])) = some (.tup [], hset hp id (.cells true true true 1 [.int .i64 0, .int .i64 0, .int .i64 1]), ct) := fun _ _ _ => rfl
            obtain ⟨a1, a2, a3⟩ := chkScreen_ok c5
            obtain ⟨S, Tb, hS, hSr, e9, e20⟩ : ∃ (S : AV) (Tb : List (List Int)), IsS S Tb ∧ (Tb.length ≤ 16 ∧ ∀ i (hi : i < Tb.length), Tb[i].length ≤ 1000000) ∧ callPure P L (D P L) 9 [sv, kerV a b] = some (.tup [S, I64 0]) ∧ callPure P L (D P L) 20 [sv, I64 (1 - (a : Int)), I64 (1 - (b : Int))] = some (.tup [S, I64 0]) := by
              refine ⟨tblV (fun c r => I64 (cellI s (c - (1 - a)) (r - (1 - b)))) s.length, _, tblV_S _, ⟨by rw [tbl_len]; omega, fun i hi => by rw [tbl_len] at hi; rw [tbl_row hi]; simp; omega⟩, ?_, ?_⟩
              · have hk0 := ker_chk ha hb'
                have := (s9 h.toSmP (s := s) (k := ker a b) hs kerV_S (by omega) (fun i hi => by have := (sqChk_get a3 i hi).1; omega) (by simp [ker]) (fun i hi => by simp [ker])).2 (by simp [firstI, c5, hk0])
                rw [smRows_ker a3 ha hb'] at this
                unfold Ans at this
                rw [this]
                simp only [Bool.false_eq_true, if_false, smooth_ker ha hb']
              · have f1 : chkFrm (1 - (a : Int)) = 0 := by unfold chkFrm; rw [if_neg (by omega)]
                have f2 : chkFrm (1 - (b : Int)) = 0 := by unfold chkFrm; rw [if_neg (by omega)]
                exact (s20 h.toShP hs (by omega) (fun i hi => by have := (sqChk_get a3 i hi).1; omega) (1 - (a : Int)) (1 - (b : Int))).2 (by simp [firstI, c5, f1, f2])
            have e21 := s21 h.h21 h.h59 hS hS (by omega) hSr.2 rfl
            unfold Ans at e21
            have wa : IntKind.wrap .i64 (1 - (a : Int)) = 1 - (a : Int) := wrap64 (by omega) (by omega)
            have wb : IntKind.wrap .i64 (1 - (b : Int)) = 1 - (b : Int) := wrap64 (by omega) (by omega)
            have w00 : decide (IntKind.wrap .i64 ((0 : Int) + 0) = 0) = true := rfl
            obtain rfl | rfl | rfl := lt3 ha
            · obtain rfl | rfl | rfl := lt3 hb'
              · change callPure P L (D P L) 9 [sv, .vsl true 3 [.vsl true 3 [.int .i64 1, .int .i64 0, .int .i64 0], .vsl true 3 [.int .i64 0, .int .i64 0, .int .i64 0], .vsl true 3 [.int .i64 0, .int .i64 0, .int .i64 0]]] = _ at e9
                simp only [go_sem, Nat.reduceEqDiff, Nat.reduceAdd, Nat.reduceMul, Nat.reduceLT, Nat.reduceLeDiff, Nat.mul_one, i0, i1, cvx, cvy, ea, eb, bin_rem _ _ _ hd3, as0, as1, ix0, ix1, ix2, sc0, sc1, sc2, hs.len, hs.pu, hs.frz, hs.shut, hs.shut1, hs.res, hs.one, hs.cells, drop1, drop2, frz3, e9, wa, wb, e20, w00, hS.len, hS.pu, hS.frz, hS.shut, hS.shut1, hS.res, hS.one, hS.cells, e21]
              · change callPure P L (D P L) 9 [sv, .vsl true 3 [.vsl true 3 [.int .i64 0, .int .i64 0, .int .i64 0], .vsl true 3 [.int .i64 1, .int .i64 0, .int .i64 0], .vsl true 3 [.int .i64 0, .int .i64 0, .int .i64 0]]] = _ at e9
                simp only [go_sem, Nat.reduceEqDiff, Nat.reduceAdd, Nat.reduceMul, Nat.reduceLT, Nat.reduceLeDiff, Nat.mul_one, i0, i1, cvx, cvy, ea, eb, bin_rem _ _ _ hd3, as0, as1, ix0, ix1, ix2, sc0, sc1, sc2, hs.len, hs.pu, hs.frz, hs.shut, hs.shut1, hs.res, hs.one, hs.cells, drop1, drop2, frz3, e9, wa, wb, e20, w00, hS.len, hS.pu, hS.frz, hS.shut, hS.shut1, hS.res, hS.one, hS.cells, e21]
              · change callPure P L (D P L) 9 [sv, .vsl true 3 [.vsl true 3 [.int .i64 0, .int .i64 0, .int .i64 0], .vsl true 3 [.int .i64 0, .int .i64 0, .int .i64 0], .vsl true 3 [.int .i64 1, .int .i64 0, .int .i64 0]]] = _ at e9
                simp only [go_sem, Nat.reduceEqDiff, Nat.reduceAdd, Nat.reduceMul, Nat.reduceLT, Nat.reduceLeDiff, Nat.mul_one, i0, i1, cvx, cvy, ea, eb, bin_rem _ _ _ hd3, as0, as1, ix0, ix1, ix2, sc0, sc1, sc2, hs.len, hs.pu, hs.frz, hs.shut, hs.shut1, hs.res, hs.one, hs.cells, drop1, drop2, frz3, e9, wa, wb, e20, w00, hS.len, hS.pu, hS.frz, hS.shut, hS.shut1, hS.res, hS.one, hS.cells, e21]
            · obtain rfl | rfl | rfl := lt3 hb'
              · change callPure P L (D P L) 9 [sv, .vsl true 3 [.vsl true 3 [.int .i64 0, .int .i64 1, .int .i64 0], .vsl true 3 [.int .i64 0, .int .i64 0, .int .i64 0], .vsl true 3 [.int .i64 0, .int .i64 0, .int .i64 0]]] = _ at e9
                simp only [go_sem, Nat.reduceEqDiff, Nat.reduceAdd, Nat.reduceMul, Nat.reduceLT, Nat.reduceLeDiff, Nat.mul_one, i0, i1, cvx, cvy, ea, eb, bin_rem _ _ _ hd3, as0, as1, ix0, ix1, ix2, sc0, sc1, sc2, hs.len, hs.pu, hs.frz, hs.shut, hs.shut1, hs.res, hs.one, hs.cells, drop1, drop2, frz3, e9, wa, wb, e20, w00, hS.len, hS.pu, hS.frz, hS.shut, hS.shut1, hS.res, hS.one, hS.cells, e21]
              · change callPure P L (D P L) 9 [sv, .vsl true 3 [.vsl true 3 [.int .i64 0, .int .i64 0, .int .i64 0], .vsl true 3 [.int .i64 0, .int .i64 1, .int .i64 0], .vsl true 3 [.int .i64 0, .int .i64 0, .int .i64 0]]] = _ at e9
                simp only [go_sem, Nat.reduceEqDiff, Nat.reduceAdd, Nat.reduceMul, Nat.reduceLT, Nat.reduceLeDiff, Nat.mul_one, i0, i1, cvx, cvy, ea, eb, bin_rem _ _ _ hd3, as0, as1, ix0, ix1, ix2, sc0, sc1, sc2, hs.len, hs.pu, hs.frz, hs.shut, hs.shut1, hs.res, hs.one, hs.cells, drop1, drop2, frz3, e9, wa, wb, e20, w00, hS.len, hS.pu, hS.frz, hS.shut, hS.shut1, hS.res, hS.one, hS.cells, e21]
              · change callPure P L (D P L) 9 [sv, .vsl true 3 [.vsl true 3 [.int .i64 0, .int .i64 0, .int .i64 0], .vsl true 3 [.int .i64 0, .int .i64 0, .int .i64 0], .vsl true 3 [.int .i64 0, .int .i64 1, .int .i64 0]]] = _ at e9
                simp only [go_sem, Nat.reduceEqDiff, Nat.reduceAdd, Nat.reduceMul, Nat.reduceLT, Nat.reduceLeDiff, Nat.mul_one, i0, i1, cvx, cvy, ea, eb, bin_rem _ _ _ hd3, as0, as1, ix0, ix1, ix2, sc0, sc1, sc2, hs.len, hs.pu, hs.frz, hs.shut, hs.shut1, hs.res, hs.one, hs.cells, drop1, drop2, frz3, e9, wa, wb, e20, w00, hS.len, hS.pu, hS.frz, hS.shut, hS.shut1, hS.res, hS.one, hS.cells, e21]
            · obtain rfl | rfl | rfl := lt3 hb'
              · change callPure P L (D P L) 9 [sv, .vsl true 3 [.vsl true 3 [.int .i64 0, .int .i64 0, .int .i64 1], .vsl true 3 [.int .i64 0, .int .i64 0, .int .i64 0], .vsl true 3 [.int .i64 0, .int .i64 0, .int .i64 0]]] = _ at e9
                simp only [go_sem, Nat.reduceEqDiff, Nat.reduceAdd, Nat.reduceMul, Nat.reduceLT, Nat.reduceLeDiff, Nat.mul_one, i0, i1, cvx, cvy, ea, eb, bin_rem _ _ _ hd3, as0, as1, ix0, ix1, ix2, sc0, sc1, sc2, hs.len, hs.pu, hs.frz, hs.shut, hs.shut1, hs.res, hs.one, hs.cells, drop1, drop2, frz3, e9, wa, wb, e20, w00, hS.len, hS.pu, hS.frz, hS.shut, hS.shut1, hS.res, hS.one, hS.cells, e21]
              · change callPure P L (D P L) 9 [sv, .vsl true 3 [.vsl true 3 [.int .i64 0, .int .i64 0, .int .i64 0], .vsl true 3 [.int .i64 0, .int .i64 0, .int .i64 1], .vsl true 3 [.int .i64 0, .int .i64 0, .int .i64 0]]] = _ at e9
                simp only [go_sem, Nat.reduceEqDiff, Nat.reduceAdd, Nat.reduceMul, Nat.reduceLT, Nat.reduceLeDiff, Nat.mul_one, i0, i1, cvx, cvy, ea, eb, bin_rem _ _ _ hd3, as0, as1, ix0, ix1, ix2, sc0, sc1, sc2, hs.len, hs.pu, hs.frz, hs.shut, hs.shut1, hs.res, hs.one, hs.cells, drop1, drop2, frz3, e9, wa, wb, e20, w00, hS.len, hS.pu, hS.frz, hS.shut, hS.shut1, hS.res, hS.one, hS.cells, e21]
              · change callPure P L (D P L) 9 [sv, .vsl true 3 [.vsl true 3 [.int .i64 0, .int .i64 0, .int .i64 0], .vsl true 3 [.int .i64 0, .int .i64 0, .int .i64 0], .vsl true 3 [.int .i64 0, .int .i64 0, .int .i64 1]]] = _ at e9
                simp only [go_sem, Nat.reduceEqDiff, Nat.reduceAdd, Nat.reduceMul, Nat.reduceLT, Nat.reduceLeDiff, Nat.mul_one, i0, i1, cvx, cvy, ea, eb, bin_rem _ _ _ hd3, as0, as1, ix0, ix1, ix2, sc0, sc1, sc2, hs.len, hs.pu, hs.frz, hs.shut, hs.shut1, hs.res, hs.one, hs.cells, drop1, drop2, frz3, e9, wa, wb, e20, w00, hS.len, hS.pu, hS.frz, hS.shut, hS.shut1, hS.res, hS.one, hS.cells, e21]
          · simp only [go_sem, Nat.reduceEqDiff, Nat.reduceAdd, Nat.reduceMul, Nat.reduceLT, Nat.reduceLeDiff, Nat.mul_one, c176, boxV_n, hw.len, hw.pu, hw.frz, hw.shut, hw.shut1, hw.res, hw.one, hw.cells, hs.len, hs.pu, hs.frz, hs.shut, hs.shut1, hs.res, hs.one, hs.cells, hA, e6, c1, off_ptr, Nat.zero_add, drop1, drop2, c2, show ¬ (9 : Int) < w.length by omega, show ¬ (6 : Int) < s.length by omega, e3, c5]
  · simp only [go_sem, Nat.reduceEqDiff, Nat.reduceAdd, Nat.reduceMul, Nat.reduceLT, Nat.reduceLeDiff, Nat.mul_one, c176, boxV_n, hw.len, hw.pu, hw.frz, hw.shut, hw.shut1, hw.res, hw.one, hw.cells, hs.len, hs.pu, hs.frz, hs.shut, hs.shut1, hs.res, hs.one, hs.cells, hA, e6, c1, off_ptr, Nat.zero_add, drop1, drop2]
end
end VE
end
