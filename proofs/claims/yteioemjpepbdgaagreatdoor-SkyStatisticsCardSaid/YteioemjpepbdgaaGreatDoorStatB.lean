import Derived.Test.YteioemjpepbdgaaGreatDoorRefD
import Derived.Test.YteioemjpepbdgaaGreatDoorStatA
set_option linter.all false
section
set_option maxRecDepth 100000
namespace VE
open Go (IntKind)
section
variable {P : Prog} {L : Lib}
theorem w256_0 {v : AV} {s : List (List Int)} (hv : IsS v s) {n : Nat} (hn : s.length = n) (hn1 : n ≤ 16) (hs : sqChk n (-1000) 1000 s = 0) {r : Nat} (hr : r < n) {T : Int} (hT : -2000000000 ≤ T ∧ T ≤ 2000000000) :
    ∀ d st, (∃ c : Nat, compact [0, 3, 4, 5] st = ⟨[(0, v), (3, I64 (T + psum (fun c => kv s r c) c)), (4, I64 r), (5, I64 c)], [], 0, 0⟩ ∧ c + d = n) →
      ∃ ex s', D P L (.loop [0, 3, 4, 5] c256_0) st = some (ex, s') ∧ ∃ tm, s' = ⟨tm, [], 0, 0⟩ ∧ ex = .exit 2 ∧ tget tm 0 = v ∧ tget tm 3 = I64 (T + psum (fun c => kv s r c) n) ∧ tget tm 4 = I64 r := by
  refine loop_can (I := fun d st => ∃ c : Nat, st = ⟨[(0, v), (3, I64 (T + psum (fun c => kv s r c) c)), (4, I64 r), (5, I64 c)], [], 0, 0⟩ ∧ c + d = n)
    (Q := fun ex s' => ∃ tm, s' = ⟨tm, [], 0, 0⟩ ∧ ex = .exit 2 ∧ tget tm 0 = v ∧ tget tm 3 = I64 (T + psum (fun c => kv s r c) n) ∧ tget tm 4 = I64 r) ?_
  rintro d st ⟨c, rfl, hd⟩
  by_cases hc : c < n
  · left
    have h1 : r < s.length := by omega
    obtain ⟨w, rest, w1, w2⟩ := hv.ixa h1
    have h2 : c < s[r].length := by rw [(sqChk_get hs r h1).1]; exact hc
    have e := w1.ixa h2
    rw [kv_get h1 h2] at e
    have b1 : ∀ c, -1000 ≤ kv s r c ∧ kv s r c ≤ 1000 := fun c => kv_bound hs (by decide) r c
    have bp := psum_bound (f := fun c => kv s r c) (b := 1000) b1 c
    have e5 : T + psum (fun c => kv s r c) (c + 1) = T + psum (fun c => kv s r c) c + kv s r c := by simp only [psum, Int.add_assoc]
    have hcc := b1 c
    generalize hS : T + psum (fun c => kv s r c) c = S at e5
    have hSb : -3000000000 ≤ S ∧ S ≤ 3000000000 := by omega
    simp only [go_sem, Nat.reduceEqDiff, c256_0, hv.len, show (c : Int) < s.length by omega, w2, e, wrap64 (n := S + kv s r c) (by omega) (by omega)]
    refine ⟨_, d - 1, rfl, by omega, c + 1, ?_, by omega⟩
    rw [wrap64 (by omega) (by omega), e5]
    simp only [go_sem, Nat.reduceEqDiff, compact0, refs_pure hv.pu, ren_pure _ hv.pu] <;> rfl
  · right
    have : c = n := by omega
    subst this
    simp only [go_sem, Nat.reduceEqDiff, c256_0, hv.len, show ¬ (c : Int) < s.length by omega]
    exact ⟨_, _, rfl, by simp, _, rfl, rfl, by simp only [go_sem, Nat.reduceEqDiff], by simp only [go_sem, Nat.reduceEqDiff], by simp only [go_sem, Nat.reduceEqDiff]⟩
theorem rows_b {n : Nat} {val : Nat → Nat → Int} (hn : n ≤ 16) (hb : ∀ c r, -4000000 ≤ val c r ∧ val c r ≤ 4000000) {r : Nat} (hr : r ≤ n) : -2000000000 ≤ psum (fun r => psum (fun c => val c r) n) r ∧ psum (fun r => psum (fun c => val c r) n) r ≤ 2000000000 := by
  have h1 : ∀ r, -64000000 ≤ psum (fun c => val c r) n ∧ psum (fun c => val c r) n ≤ 64000000 := fun r => by
    have := psum_bound (fun c => hb c r) n
    omega
  have := psum_bound h1 r
  omega
theorem w256_1 {v : AV} {s : List (List Int)} (hv : IsS v s) {n : Nat} (hn : s.length = n) (hn1 : n ≤ 16) (hs : sqChk n (-1000) 1000 s = 0) :
    ∀ d st, (∃ r : Nat, compact [0, 3, 4] st = ⟨[(0, v), (3, I64 (psum (fun r => psum (fun c => kv s r c) n) r)), (4, I64 r)], [], 0, 0⟩ ∧ r + d = n) →
      ∃ ex s', D P L (.loop [0, 3, 4] c256_1) st = some (ex, s') ∧ ∃ tm, s' = ⟨tm, [], 0, 0⟩ ∧ ex = .exit 0 ∧ tget tm 0 = v ∧ tget tm 3 = I64 (psum (fun r => psum (fun c => kv s r c) n) n) := by
  refine loop_can (I := fun d st => ∃ r : Nat, st = ⟨[(0, v), (3, I64 (psum (fun r => psum (fun c => kv s r c) n) r)), (4, I64 r)], [], 0, 0⟩ ∧ r + d = n)
    (Q := fun ex s' => ∃ tm, s' = ⟨tm, [], 0, 0⟩ ∧ ex = .exit 0 ∧ tget tm 0 = v ∧ tget tm 3 = I64 (psum (fun r => psum (fun c => kv s r c) n) n)) ?_
  rintro d st ⟨r, rfl, hd⟩
  have b1 : ∀ c r, -4000000 ≤ kv s r c ∧ kv s r c ≤ 4000000 := fun c r => by have := kv_bound hs (by decide) r c; omega
  by_cases hr : r < n
  · left
    simp only [go_sem, Nat.reduceEqDiff, c256_1, hv.len, show (r : Int) < s.length by omega]
    generalize hq : D P L (.loop [0, 3, 4, 5] c256_0) _ = q
    obtain ⟨ex, st, rfl, tm, rfl, rfl, t0, t3, t4⟩ := of_key hq (w256_0 (P := P) (L := L) hv hn hn1 hs hr (rows_b hn1 b1 (Nat.le_of_lt hr)) n) ⟨0, by
      simp only [psum, Int.add_zero]
      simp only [go_sem, Nat.reduceEqDiff, compact0, refs_pure hv.pu, ren_pure _ hv.pu] <;> rfl, by omega⟩
    simp only [go_sem, Nat.reduceEqDiff, compact0, t0, t3, t4, refs_pure hv.pu, ren_pure _ hv.pu]
    refine ⟨_, d - 1, rfl, by omega, r + 1, ?_, by omega⟩
    rw [wrap64 (by omega) (by omega)]
    simp only [go_sem, Nat.reduceEqDiff, compact0, psum, refs_pure hv.pu, ren_pure _ hv.pu] <;> rfl
  · right
    have : r = n := by omega
    subst this
    simp only [go_sem, Nat.reduceEqDiff, c256_1, hv.len, show ¬ (r : Int) < s.length by omega]
    exact ⟨_, _, rfl, by simp, _, rfl, rfl, by simp only [go_sem, Nat.reduceEqDiff], by simp only [go_sem, Nat.reduceEqDiff]⟩
structure RsP (P : Prog) (L : Lib) : Prop extends Ra P L where
  h256 : Has P L 256 c256
  h257 : Has P L 257 c257
  h258 : Has P L 258 c258
  h259 : Has P L 259 c259
  h260 : Has P L 260 c260
  h269 : Has P L 269 c269
  h270 : Has P L 270 c270
  h284 : Has P L 284 c284
  h285 : Has P L 285 c285
  h286 : Has P L 286 c286
  h43 : Has P L 43 c43
  h30 : Has P L 30 c30
theorem a270 (h : RsP P L) {t : Int} (ht : -2000000000 ≤ t ∧ t ≤ 2000000000) {n : Nat} (h0 : 0 < n) (h1 : n ≤ 16) : Ans P L 270 [I64 t, I64 n] (.str (ratT t ((n : Int) * n))) := by
  have hnn : (n : Int) * n ≤ 256 ∧ 0 < (n : Int) * n := by
    have e : (n : Int) * n = ((n * n : Nat) : Int) := (Int.natCast_mul _ _).symm
    have h1 : n * n ≤ 16 * 16 := Nat.mul_le_mul h1 h1
    have h2 : 0 < n * n := Nat.mul_pos h0 h0
    omega
  have e := a277 h.h277 h.h291 h.h292 (a := t) (b := (n : Int) * n) (by omega) (by omega)
  unfold Ans at e ⊢; rw [call_eq h.h270]
  simp only [go_sem, Nat.reduceEqDiff, c270, wrap64 (n := (n : Int) * n) (by omega) (by omega), e]
theorem a256 (h : RsP P L) {v : AV} {s : List (List Int)} (hv : IsS v s) (hz : chkScreen s = 0) : Ans P L 256 [v] (.str (ratT (sum1 s) (area s))) := by
  obtain ⟨a1, a2, a3⟩ := chkScreen_ok hz
  have hb : ∀ c r, -4000000 ≤ kv s r c ∧ kv s r c ≤ 4000000 := fun c r => by have := kv_bound a3 (by decide) r c; omega
  have e := a270 h (rows_b a2 hb (Nat.le_refl _)) a1 a2
  unfold Ans at e ⊢; rw [call_eq h.h256]
  simp only [go_sem, c256]
  generalize hq : D P L (.loop [0, 3, 4] c256_1) _ = q
  obtain ⟨ex, st, rfl, tm, rfl, rfl, t0, t3⟩ := of_key hq (w256_1 (P := P) (L := L) hv rfl a2 a3 s.length) ⟨0, by simp only [go_sem, Nat.reduceEqDiff, compact0, psum, refs_pure hv.pu, ren_pure _ hv.pu] <;> rfl, by omega⟩
  simp only [go_sem, Nat.reduceEqDiff, compact0, t0, t3, hv.len, refs_pure hv.pu, ren_pure _ hv.pu, e]
  rfl
end
end VE
end
section
set_option maxRecDepth 100000
namespace VE
open Go (IntKind)
theorem sdiff_bound {s : List (List Int)} {n : Nat} (hs : sqChk n (-1000) 1000 s = 0) (a b : Int) (c r : Nat) : -4000000 ≤ sdiff s a b c r ∧ sdiff s a b c r ≤ 4000000 := by
  have b1 := kv_bound hs (by decide) r c
  have b2 := cellI_bound hs (by decide) ((c : Int) + a) ((r : Int) + b)
  exact mul_bound (a := 2000) (b := 2000) (x := cellI s (c + a) (r + b) - kv s r c) (y := cellI s (c + a) (r + b) - kv s r c) (by omega) (by omega)
theorem sdiff_eq (s : List (List Int)) (a b : Int) (c r : Nat) : sdiff s a b c r = (cellI s ((c : Int) + a) ((r : Int) + b) - kv s r c) * (cellI s ((c : Int) + a) ((r : Int) + b) - kv s r c) := rfl
section
variable {P : Prog} {L : Lib}
theorem w257_0 {v : AV} {s : List (List Int)} (hv : IsS v s) {n : Nat} (hn : s.length = n) (hn1 : n ≤ 16) (hs : sqChk n (-1000) 1000 s = 0) {r : Nat} (hr : r < n) {T : Int} (hT : -2000000000 ≤ T ∧ T ≤ 2000000000) :
    ∀ d st, (∃ c : Nat, compact [0, 3, 4, 5] st = ⟨[(0, v), (3, I64 (T + psum (fun c => kv s r c * kv s r c) c)), (4, I64 r), (5, I64 c)], [], 0, 0⟩ ∧ c + d = n) →
      ∃ ex s', D P L (.loop [0, 3, 4, 5] c257_0) st = some (ex, s') ∧ ∃ tm, s' = ⟨tm, [], 0, 0⟩ ∧ ex = .exit 2 ∧ tget tm 0 = v ∧ tget tm 3 = I64 (T + psum (fun c => kv s r c * kv s r c) n) ∧ tget tm 4 = I64 r := by
  refine loop_can (I := fun d st => ∃ c : Nat, st = ⟨[(0, v), (3, I64 (T + psum (fun c => kv s r c * kv s r c) c)), (4, I64 r), (5, I64 c)], [], 0, 0⟩ ∧ c + d = n)
    (Q := fun ex s' => ∃ tm, s' = ⟨tm, [], 0, 0⟩ ∧ ex = .exit 2 ∧ tget tm 0 = v ∧ tget tm 3 = I64 (T + psum (fun c => kv s r c * kv s r c) n) ∧ tget tm 4 = I64 r) ?_
  rintro d st ⟨c, rfl, hd⟩
  by_cases hc : c < n
  · left
    have h1 : r < s.length := by omega
    obtain ⟨w, rest, w1, w2⟩ := hv.ixa h1
    have h2 : c < s[r].length := by rw [(sqChk_get hs r h1).1]; exact hc
    have e := w1.ixa h2
    rw [kv_get h1 h2] at e
    have b1 : ∀ c, -1000000 ≤ kv s r c * kv s r c ∧ kv s r c * kv s r c ≤ 1000000 := fun c => mul_bound (a := 1000) (b := 1000) (kv_bound hs (by decide) r c) (kv_bound hs (by decide) r c)
    have bp := psum_bound (f := fun c => kv s r c * kv s r c) (b := 1000000) b1 c
    have e5 : T + psum (fun c => kv s r c * kv s r c) (c + 1) = T + psum (fun c => kv s r c * kv s r c) c + kv s r c * kv s r c := by simp only [psum, Int.add_assoc]
    have hcc := b1 c
    generalize hS : T + psum (fun c => kv s r c * kv s r c) c = S at e5
    have hSb : -3000000000 ≤ S ∧ S ≤ 3000000000 := by omega
    simp only [go_sem, Nat.reduceEqDiff, c257_0, hv.len, show (c : Int) < s.length by omega, w2, e, wrap64 (n := kv s r c * kv s r c) (by omega) (by omega), wrap64 (n := S + kv s r c * kv s r c) (by omega) (by omega)]
    refine ⟨_, d - 1, rfl, by omega, c + 1, ?_, by omega⟩
    rw [wrap64 (by omega) (by omega), e5]
    simp only [go_sem, Nat.reduceEqDiff, compact0, refs_pure hv.pu, ren_pure _ hv.pu] <;> rfl
  · right
    have : c = n := by omega
    subst this
    simp only [go_sem, Nat.reduceEqDiff, c257_0, hv.len, show ¬ (c : Int) < s.length by omega]
    exact ⟨_, _, rfl, by simp, _, rfl, rfl, by simp only [go_sem, Nat.reduceEqDiff], by simp only [go_sem, Nat.reduceEqDiff], by simp only [go_sem, Nat.reduceEqDiff]⟩
theorem w257_1 {v : AV} {s : List (List Int)} (hv : IsS v s) {n : Nat} (hn : s.length = n) (hn1 : n ≤ 16) (hs : sqChk n (-1000) 1000 s = 0) :
    ∀ d st, (∃ r : Nat, compact [0, 3, 4] st = ⟨[(0, v), (3, I64 (psum (fun r => psum (fun c => kv s r c * kv s r c) n) r)), (4, I64 r)], [], 0, 0⟩ ∧ r + d = n) →
      ∃ ex s', D P L (.loop [0, 3, 4] c257_1) st = some (ex, s') ∧ ∃ tm, s' = ⟨tm, [], 0, 0⟩ ∧ ex = .exit 0 ∧ tget tm 0 = v ∧ tget tm 3 = I64 (psum (fun r => psum (fun c => kv s r c * kv s r c) n) n) := by
  refine loop_can (I := fun d st => ∃ r : Nat, st = ⟨[(0, v), (3, I64 (psum (fun r => psum (fun c => kv s r c * kv s r c) n) r)), (4, I64 r)], [], 0, 0⟩ ∧ r + d = n)
    (Q := fun ex s' => ∃ tm, s' = ⟨tm, [], 0, 0⟩ ∧ ex = .exit 0 ∧ tget tm 0 = v ∧ tget tm 3 = I64 (psum (fun r => psum (fun c => kv s r c * kv s r c) n) n)) ?_
  rintro d st ⟨r, rfl, hd⟩
  have b1 : ∀ c r, -4000000 ≤ kv s r c * kv s r c ∧ kv s r c * kv s r c ≤ 4000000 := fun c r => by have := mul_bound (a := 1000) (b := 1000) (kv_bound hs (by decide) r c) (kv_bound hs (by decide) r c); omega
  by_cases hr : r < n
  · left
    simp only [go_sem, Nat.reduceEqDiff, c257_1, hv.len, show (r : Int) < s.length by omega]
    generalize hq : D P L (.loop [0, 3, 4, 5] c257_0) _ = q
    obtain ⟨ex, st, rfl, tm, rfl, rfl, t0, t3, t4⟩ := of_key hq (w257_0 (P := P) (L := L) hv hn hn1 hs hr (rows_b hn1 b1 (Nat.le_of_lt hr)) n) ⟨0, by
      simp only [psum, Int.add_zero]
      simp only [go_sem, Nat.reduceEqDiff, compact0, refs_pure hv.pu, ren_pure _ hv.pu] <;> rfl, by omega⟩
    simp only [go_sem, Nat.reduceEqDiff, compact0, t0, t3, t4, refs_pure hv.pu, ren_pure _ hv.pu]
    refine ⟨_, d - 1, rfl, by omega, r + 1, ?_, by omega⟩
    rw [wrap64 (by omega) (by omega)]
    simp only [go_sem, Nat.reduceEqDiff, compact0, psum, refs_pure hv.pu, ren_pure _ hv.pu] <;> rfl
  · right
    have : r = n := by omega
    subst this
    simp only [go_sem, Nat.reduceEqDiff, c257_1, hv.len, show ¬ (r : Int) < s.length by omega]
    exact ⟨_, _, rfl, by simp, _, rfl, rfl, by simp only [go_sem, Nat.reduceEqDiff], by simp only [go_sem, Nat.reduceEqDiff]⟩
theorem w259_0 {v : AV} {s : List (List Int)} (hv : IsS v s) {n : Nat} (hn : s.length = n) (hn1 : n ≤ 16) (hs : sqChk n (-1000) 1000 s = 0) (h43 : Has P L 43 c43) {a b : Int} (ha : chkFrm a = 0) (hb : chkFrm b = 0) {r : Nat} (hr : r < n) {T : Int} (hT : -2000000000 ≤ T ∧ T ≤ 2000000000) :
    ∀ d st, (∃ c : Nat, compact [0, 1, 2, 7, 8, 9] st = ⟨[(0, v), (1, I64 a), (2, I64 b), (7, I64 (T + psum (fun c => sdiff s a b c r) c)), (8, I64 r), (9, I64 c)], [], 0, 0⟩ ∧ c + d = n) →
      ∃ ex s', D P L (.loop [0, 1, 2, 7, 8, 9] c259_0) st = some (ex, s') ∧ ∃ tm, s' = ⟨tm, [], 0, 0⟩ ∧ ex = .exit 2 ∧ tget tm 0 = v ∧ tget tm 1 = I64 a ∧ tget tm 2 = I64 b ∧ tget tm 7 = I64 (T + psum (fun c => sdiff s a b c r) n) ∧ tget tm 8 = I64 r := by
  refine loop_can (I := fun d st => ∃ c : Nat, st = ⟨[(0, v), (1, I64 a), (2, I64 b), (7, I64 (T + psum (fun c => sdiff s a b c r) c)), (8, I64 r), (9, I64 c)], [], 0, 0⟩ ∧ c + d = n)
    (Q := fun ex s' => ∃ tm, s' = ⟨tm, [], 0, 0⟩ ∧ ex = .exit 2 ∧ tget tm 0 = v ∧ tget tm 1 = I64 a ∧ tget tm 2 = I64 b ∧ tget tm 7 = I64 (T + psum (fun c => sdiff s a b c r) n) ∧ tget tm 8 = I64 r) ?_
  rintro d st ⟨c, rfl, hd⟩
  by_cases hc : c < n
  · left
    have h1 : r < s.length := by omega
    obtain ⟨w, rest, w1, w2⟩ := hv.ixa h1
    have h2 : c < s[r].length := by rw [(sqChk_get hs r h1).1]; exact hc
    have e := w1.ixa h2
    rw [kv_get h1 h2] at e
    have ha' : -999999999 ≤ a ∧ a ≤ 999999999 := by unfold chkFrm at ha; split at ha <;> omega
    have hb' : -999999999 ≤ b ∧ b ≤ 999999999 := by unfold chkFrm at hb; split at hb <;> omega
    have k1 := kv_bound hs (by decide) r c
    have k2 := cellI_bound hs (by decide) ((c : Int) + a) ((r : Int) + b)
    have e43 := s43 h43 hv hn (by omega) (by omega) (fun i hi => (sqChk_get hs i hi).1) ((c : Int) + a) ((r : Int) + b)
    unfold Ans at e43
    have b1 : ∀ c : Nat, -4000000 ≤ sdiff s a b c r ∧ sdiff s a b c r ≤ 4000000 := fun c => sdiff_bound hs a b c r
    have bp := psum_bound (f := fun c => sdiff s a b c r) (b := 4000000) b1 c
    have e5 : T + psum (fun c => sdiff s a b c r) (c + 1) = T + psum (fun c => sdiff s a b c r) c + sdiff s a b c r := by simp only [psum, Int.add_assoc]
    have hcc := b1 c
    generalize hS : T + psum (fun c => sdiff s a b c r) c = S at e5
    have hSb : -3000000000 ≤ S ∧ S ≤ 3000000000 := by omega
    simp only [go_sem, Nat.reduceEqDiff, c259_0, hv.len, hv.frz, show (c : Int) < s.length by omega, wrap64 (n := (c : Int) + a) (by omega) (by omega), wrap64 (n := (r : Int) + b) (by omega) (by omega), e43, w2, e, wrap64 (n := cellI s ((c : Int) + a) ((r : Int) + b) - kv s r c) (by omega) (by omega), ← sdiff_eq, wrap64 (n := sdiff s a b c r) (by omega) (by omega), wrap64 (n := S + sdiff s a b c r) (by omega) (by omega)]
    refine ⟨_, d - 1, rfl, by omega, c + 1, ?_, by omega⟩
    rw [wrap64 (by omega) (by omega), e5]
    simp only [go_sem, Nat.reduceEqDiff, compact0, refs_pure hv.pu, ren_pure _ hv.pu] <;> rfl
  · right
    have : c = n := by omega
    subst this
    simp only [go_sem, Nat.reduceEqDiff, c259_0, hv.len, show ¬ (c : Int) < s.length by omega]
    exact ⟨_, _, rfl, by simp, _, rfl, rfl, by simp only [go_sem, Nat.reduceEqDiff], by simp only [go_sem, Nat.reduceEqDiff], by simp only [go_sem, Nat.reduceEqDiff], by simp only [go_sem, Nat.reduceEqDiff], by simp only [go_sem, Nat.reduceEqDiff]⟩
theorem w259_1 {v : AV} {s : List (List Int)} (hv : IsS v s) {n : Nat} (hn : s.length = n) (hn1 : n ≤ 16) (hs : sqChk n (-1000) 1000 s = 0) (h43 : Has P L 43 c43) {a b : Int} (ha : chkFrm a = 0) (hb : chkFrm b = 0) :
    ∀ d st, (∃ r : Nat, compact [0, 1, 2, 7, 8] st = ⟨[(0, v), (1, I64 a), (2, I64 b), (7, I64 (psum (fun r => psum (fun c => sdiff s a b c r) n) r)), (8, I64 r)], [], 0, 0⟩ ∧ r + d = n) →
      ∃ ex s', D P L (.loop [0, 1, 2, 7, 8] c259_1) st = some (ex, s') ∧ ∃ tm, s' = ⟨tm, [], 0, 0⟩ ∧ ex = .exit 0 ∧ tget tm 0 = v ∧ tget tm 1 = I64 a ∧ tget tm 2 = I64 b ∧ tget tm 7 = I64 (psum (fun r => psum (fun c => sdiff s a b c r) n) n) := by
  refine loop_can (I := fun d st => ∃ r : Nat, st = ⟨[(0, v), (1, I64 a), (2, I64 b), (7, I64 (psum (fun r => psum (fun c => sdiff s a b c r) n) r)), (8, I64 r)], [], 0, 0⟩ ∧ r + d = n)
    (Q := fun ex s' => ∃ tm, s' = ⟨tm, [], 0, 0⟩ ∧ ex = .exit 0 ∧ tget tm 0 = v ∧ tget tm 1 = I64 a ∧ tget tm 2 = I64 b ∧ tget tm 7 = I64 (psum (fun r => psum (fun c => sdiff s a b c r) n) n)) ?_
  rintro d st ⟨r, rfl, hd⟩
  have b1 : ∀ c r : Nat, -4000000 ≤ sdiff s a b c r ∧ sdiff s a b c r ≤ 4000000 := fun c r => sdiff_bound hs a b c r
  by_cases hr : r < n
  · left
    simp only [go_sem, Nat.reduceEqDiff, c259_1, hv.len, show (r : Int) < s.length by omega]
    generalize hq : D P L (.loop [0, 1, 2, 7, 8, 9] c259_0) _ = q
    obtain ⟨ex, st, rfl, tm, rfl, rfl, t0, t1, t2, t3, t4⟩ := of_key hq (w259_0 (P := P) (L := L) hv hn hn1 hs h43 ha hb hr (rows_b hn1 b1 (Nat.le_of_lt hr)) n) ⟨0, by
      simp only [psum, Int.add_zero]
      simp only [go_sem, Nat.reduceEqDiff, compact0, refs_pure hv.pu, ren_pure _ hv.pu] <;> rfl, by omega⟩
    simp only [go_sem, Nat.reduceEqDiff, compact0, t0, t1, t2, t3, t4, refs_pure hv.pu, ren_pure _ hv.pu]
    refine ⟨_, d - 1, rfl, by omega, r + 1, ?_, by omega⟩
    rw [wrap64 (by omega) (by omega)]
    simp only [go_sem, Nat.reduceEqDiff, compact0, psum, refs_pure hv.pu, ren_pure _ hv.pu] <;> rfl
  · right
    have : r = n := by omega
    subst this
    simp only [go_sem, Nat.reduceEqDiff, c259_1, hv.len, show ¬ (r : Int) < s.length by omega]
    exact ⟨_, _, rfl, by simp, _, rfl, rfl, by simp only [go_sem, Nat.reduceEqDiff], by simp only [go_sem, Nat.reduceEqDiff], by simp only [go_sem, Nat.reduceEqDiff], by simp only [go_sem, Nat.reduceEqDiff]⟩
theorem rnum_zero {a b : Int} (hb : 0 < b) (h : rnum a b = 0) : rden a b = 1 := by
  have h1 := num_eq a b
  rw [h, Int.mul_zero] at h1
  subst h1
  unfold rden
  rw [Int.gcd_zero_left, show ((b.natAbs : Nat) : Int) = b by omega]
  exact Int.ediv_self (by omega)
theorem fin_r {a b : Int} (hb : 0 < b) (ha : a.natAbs < 18446744073709551616) (hb' : b < 18446744073709551616) : Fin (rnum a b) (rden a b).toNat := by
  have h1 := rnum_abs a b
  have h2 := rden_abs a b
  have h3 := rden_pos (a := a) hb
  have l1 := natS_len20 (n := (rnum a b).natAbs) (by omega)
  have l2 := natS_len20 (n := (rden a b).toNat) (by omega)
  exact ⟨fun h => by rw [rnum_zero hb h]; rfl, by omega, by omega, by omega⟩
theorem a257 (h : RsP P L) {v : AV} {s : List (List Int)} (hv : IsS v s) (hz : chkScreen s = 0) : Ans P L 257 [v] (.str (ratT (vnum s) (vden s))) := by
  have e256 := a256 h hv hz
  obtain ⟨a1, a2, a3⟩ := chkScreen_ok hz
  have hb : ∀ c r, -4000000 ≤ kv s r c * kv s r c ∧ kv s r c * kv s r c ≤ 4000000 := fun c r => by have := mul_bound (a := 1000) (b := 1000) (kv_bound a3 (by decide) r c) (kv_bound a3 (by decide) r c); omega
  have hb1 : ∀ c r, -4000000 ≤ kv s r c ∧ kv s r c ≤ 4000000 := fun c r => by have := kv_bound a3 (by decide) r c; omega
  have r2 := rows_b a2 hb (Nat.le_refl _)
  have r1 := rows_b a2 hb1 (Nat.le_refl _)
  have e270 := a270 h r2 a1 a2
  rw [show psum (fun r => psum (fun c => kv s r c * kv s r c) s.length) s.length = sum2 s from rfl] at e270 r2
  rw [show psum (fun r => psum (fun c => kv s r c) s.length) s.length = sum1 s from rfl] at r1
  rw [show (s.length : Int) * (s.length : Int) = area s from rfl] at e270
  have ba := area_bound a1 a2
  have t1 := ratT_TT (a := sum1 s) ba.1
  have t2 := ratT_TT (a := sum2 s) ba.1
  have f1 := fin_r (a := sum1 s) (b := area s) ba.1 (by omega) (by omega)
  have f2 := fin_r (a := sum2 s) (b := area s) ba.1 (by omega) (by omega)
  have d1 := rden_abs (sum1 s) (area s)
  have d2 := rden_abs (sum2 s) (area s)
  have p1 := rden_pos (a := sum1 s) ba.1
  have p2 := rden_pos (a := sum2 s) ba.1
  have n1 := rnum_abs (sum1 s) (area s)
  obtain ⟨D, hD⟩ : ∃ D : Nat, D = (rden (sum1 s) (area s)).toNat := ⟨_, rfl⟩
  obtain ⟨E, hE⟩ : ∃ E : Nat, E = (rden (sum2 s) (area s)).toNat := ⟨_, rfl⟩
  have hDi : (D : Int) = rden (sum1 s) (area s) := by omega
  have hEi : (E : Int) = rden (sum2 s) (area s) := by omega
  rw [← hD] at t1 f1
  rw [← hE] at t2 f2
  have hDD : D * D ≤ 256 * 256 := Nat.mul_le_mul (by omega) (by omega)
  have e267 := a267 h.toRa f1 f1 (by omega)
  have hDp : (0 : Int) < (D : Int) * D := Int.mul_pos (by omega) (by omega)
  have hDe : (D : Int) * D = ((D * D : Nat) : Int) := (Int.natCast_mul _ _).symm
  obtain ⟨N, hN⟩ : ∃ N, N = rnum (sum1 s) (area s) := ⟨_, rfl⟩
  rw [← hN] at e267 t1 f1 n1
  have hNN : (N * N).natAbs ≤ 2000000000 * 2000000000 := by rw [Int.natAbs_mul]; exact Nat.mul_le_mul (by omega) (by omega)
  have t3 := ratT_TT (a := N * N) hDp
  have f3 := fin_r (a := N * N) (b := (D : Int) * D) hDp (by omega) (by omega)
  have q1 := rden_abs (N * N) ((D : Int) * D)
  have q2 := rden_pos (a := N * N) hDp
  obtain ⟨G, hG⟩ : ∃ G : Nat, G = (rden (N * N) ((D : Int) * D)).toNat := ⟨_, rfl⟩
  have hGi : (G : Int) = rden (N * N) ((D : Int) * D) := by omega
  rw [← hG] at t3 f3
  have hEG : E * G ≤ 256 * 65536 := Nat.mul_le_mul (by omega) (by omega)
  have e271 := a271 h.toRa f2 f3 (by omega)
  have hEGp : (0 : Int) < (E : Int) * G := Int.mul_pos (by omega) (by omega)
  have hvd : 0 < vden s := Int.mul_pos ba.1 (Int.mul_pos ba.1 ba.1)
  have last : ratT (rnum (sum2 s) (area s) * G - rnum (N * N) ((D : Int) * D) * E) ((E : Int) * G) = ratT (vnum s) (vden s) := by
    refine ratT_eq hEGp hvd ?_
    have x1 := num_eq (sum1 s) (area s)
    have x2 := den_eq (sum1 s) (area s)
    have x3 := num_eq (sum2 s) (area s)
    have x4 := den_eq (sum2 s) (area s)
    have x5 := num_eq (N * N) ((D : Int) * D)
    have x6 := den_eq (N * N) ((D : Int) * D)
    rw [← hN] at x1
    rw [← hDi] at x2
    rw [← hEi] at x4
    rw [← hGi] at x6
    unfold vnum vden
    generalize rnum (sum2 s) (area s) = n2 at *
    generalize rnum (N * N) ((D : Int) * D) = m at *
    generalize ((Int.gcd (sum1 s) (area s) : Nat) : Int) = k at *
    generalize ((Int.gcd (sum2 s) (area s) : Nat) : Int) = g at *
    generalize ((Int.gcd (N * N) ((D : Int) * D) : Nat) : Int) = u at *
    generalize sum1 s = S1 at *
    generalize sum2 s = S2 at *
    generalize area s = A at *
    have y1 : n2 * A = S2 * E := by rw [x3, x4]; ac_rfl
    have y2 : S1 * S1 * G = m * (A * A) := by
      have z1 : S1 * S1 = k * k * (N * N) := by rw [x1]; ac_rfl
      have z2 : A * A = k * k * ((D : Int) * D) := by rw [x2]; ac_rfl
      rw [z1, z2]
      conv => lhs; rw [x5]
      conv => rhs; rw [x6]
      ac_rfl
    rw [Int.sub_mul, Int.sub_mul]
    congr 1
    · calc n2 * (G : Int) * (A * (A * A)) = n2 * A * (G * (A * A)) := by ac_rfl
        _ = S2 * E * (G * (A * A)) := by rw [y1]
        _ = S2 * (A * A) * (E * G) := by ac_rfl
    · calc m * (E : Int) * (A * (A * A)) = m * (A * A) * (E * A) := by ac_rfl
        _ = S1 * S1 * G * (E * A) := by rw [y2]
        _ = S1 * S1 * A * (E * G) := by ac_rfl
  rw [last, ← t2, ← t3] at e271
  rw [← t1] at e267
  unfold Ans at e256 e270 e267 e271 ⊢; rw [call_eq h.h257]
  simp only [go_sem, c257]
  generalize hq : VE.D P L (.loop [0, 3, 4] c257_1) _ = q
  obtain ⟨ex, st, rfl, tm, rfl, rfl, u0, u3⟩ := of_key hq (w257_1 (P := P) (L := L) hv rfl a2 a3 s.length) ⟨0, by simp only [go_sem, Nat.reduceEqDiff, compact0, psum, refs_pure hv.pu, ren_pure _ hv.pu] <;> rfl, by omega⟩
  simp only [go_sem, Nat.reduceEqDiff, compact0, u0, u3, hv.len, hv.frz, refs_pure hv.pu, ren_pure _ hv.pu, e256, show psum (fun r => psum (fun c => kv s r c * kv s r c) s.length) s.length = sum2 s from rfl, e270, e267, e271]
theorem a259 (h : RsP P L) {v : AV} {s : List (List Int)} (hv : IsS v s) (hz : chkScreen s = 0) {a b : Int} (ha : chkFrm a = 0) (hb : chkFrm b = 0) : Ans P L 259 [v, I64 a, I64 b] (.str (ratT (sumD s a b) (area s))) := by
  obtain ⟨a1, a2, a3⟩ := chkScreen_ok hz
  have hbd : ∀ c r : Nat, -4000000 ≤ sdiff s a b c r ∧ sdiff s a b c r ≤ 4000000 := fun c r => sdiff_bound a3 a b c r
  have e := a270 h (rows_b a2 hbd (Nat.le_refl _)) a1 a2
  unfold Ans at e ⊢; rw [call_eq h.h259]
  simp only [go_sem, c259]
  generalize hq : D P L (.loop [0, 1, 2, 7, 8] c259_1) _ = q
  obtain ⟨ex, st, rfl, tm, rfl, rfl, t0, t1, t2, t3⟩ := of_key hq (w259_1 (P := P) (L := L) hv rfl a2 a3 h.h43 ha hb s.length) ⟨0, by simp only [go_sem, Nat.reduceEqDiff, compact0, psum, refs_pure hv.pu, ren_pure _ hv.pu] <;> rfl, by omega⟩
  simp only [go_sem, Nat.reduceEqDiff, compact0, t0, t3, hv.len, refs_pure hv.pu, ren_pure _ hv.pu, e]
  rfl
end
end VE
end
