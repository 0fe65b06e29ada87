import Derived.Test.YteioemjpepbdgaaGreatDoorRefA
set_option linter.all false
section
set_option maxRecDepth 100000
namespace VE
open Go (IntKind)
theorem mul_split (p s : Nat) : p * (s % 1000000000) + p * 1000000000 * (s / 1000000000) = p * s := by
  rw [Nat.mul_assoc, ← Nat.mul_add, Nat.mod_add_div]
theorem getD_out {l : List Int} {i : Nat} (h : l.length ≤ i) : l.getD i 0 = 0 := by
  simp [List.getD_eq_getElem?_getD, List.getElem?_eq_none h]
theorem add_step {a b out : List Int} {i c : Nat} {x y : Int} (hx : x = a.getD i 0) (hy : y = b.getD i 0) (h1 : 0 ≤ x) (h2 : 0 ≤ y) (hl : out.length = i) (hv : dv out + 1000000000 ^ i * c = dv (a.take i) + dv (b.take i)) :
    dv (out ++ [(((x.toNat + y.toNat + c) % 1000000000 : Nat) : Int)]) + 1000000000 ^ (i + 1) * ((x.toNat + y.toNat + c) / 1000000000) = dv (a.take (i + 1)) + dv (b.take (i + 1)) := by
  rw [dv_take, dv_take, dv_append, hl, ← hx, ← hy]
  simp only [dv, Int.toNat_natCast, Nat.mul_zero, Nat.add_zero, Nat.pow_succ]
  have := mul_split (1000000000 ^ i) (x.toNat + y.toNat + c)
  rw [Nat.mul_add, Nat.mul_add] at this
  omega
section
variable {P : Prog} {L : Lib}
theorem a295_0 (h302 : Has P L 302 c302) {v w : AV} {a b : List Int} (hv : IsI v a) (hw : IsI w b) (ha : dg a) (hb : dg b) {N : Nat} (la : a.length ≤ N) (lb : b.length ≤ N) (lN : N ≤ 1000000) :
    ∀ k s, (∃ (i c : Nat) (out : List Int), 2 * (N - i) + c = k ∧ out.length = i ∧ c ≤ 1 ∧ dg out ∧ dv out + 1000000000 ^ i * c = dv (a.take i) + dv (b.take i) ∧ i ≤ N + 1 ∧ (i ≤ N ∨ c = 0) ∧
        ((i = 0 ∧ compact [0, 1, 5, 6, 7] s = ⟨[(0, v), (1, w), (5, .nils), (6, I64 c), (7, I64 i)], [], 0, 0⟩) ∨
        (0 < i ∧ compact [0, 1, 5, 6, 7] s = ⟨[(0, v), (1, w), (5, .osl 0 0 i), (6, I64 c), (7, I64 i)], [(0, .cells true true false 1 (out.map I64))], 1, 0⟩))) →
      ∃ ex s', D P L (.loop [0, 1, 5, 6, 7] c295_0) s = some (ex, s') ∧ ∃ tm out, ex = .exit 0 ∧ dg out ∧ dv out = dv a + dv b ∧ out.length ≤ N + 1 ∧ ((out = [] ∧ tget tm 5 = .nils ∧ s' = ⟨tm, [], 0, 0⟩) ∨ (0 < out.length ∧ tget tm 5 = .osl 0 0 out.length ∧ s' = ⟨tm, [(0, .cells true true false 1 (out.map I64))], 1, 0⟩)) := by
  refine loop_can (I := fun k s => ∃ (i c : Nat) (out : List Int), 2 * (N - i) + c = k ∧ out.length = i ∧ c ≤ 1 ∧ dg out ∧ dv out + 1000000000 ^ i * c = dv (a.take i) + dv (b.take i) ∧ i ≤ N + 1 ∧ (i ≤ N ∨ c = 0) ∧
        ((i = 0 ∧ s = ⟨[(0, v), (1, w), (5, .nils), (6, I64 c), (7, I64 i)], [], 0, 0⟩) ∨
        (0 < i ∧ s = ⟨[(0, v), (1, w), (5, .osl 0 0 i), (6, I64 c), (7, I64 i)], [(0, .cells true true false 1 (out.map I64))], 1, 0⟩)))
    (Q := fun ex s' => ∃ tm out, ex = .exit 0 ∧ dg out ∧ dv out = dv a + dv b ∧ out.length ≤ N + 1 ∧ ((out = [] ∧ tget tm 5 = .nils ∧ s' = ⟨tm, [], 0, 0⟩) ∨ (0 < out.length ∧ tget tm 5 = .osl 0 0 out.length ∧ s' = ⟨tm, [(0, .cells true true false 1 (out.map I64))], 1, 0⟩))) ?_
  rintro k s ⟨i, c, out, hk, hlen, hc, hdg, hval, hi, hic, hs⟩
  have e1 := a302 h302 hv i
  have e2 := a302 h302 hw i
  unfold Ans at e1 e2
  have ga := dg_get ha i
  have gb := dg_get hb i
  by_cases hgo : i < a.length ∨ i < b.length ∨ 0 < c
  · left
    obtain ⟨x, hx⟩ : ∃ x, x = a.getD i 0 := ⟨_, rfl⟩
    obtain ⟨y, hy⟩ : ∃ y, y = b.getD i 0 := ⟨_, rfl⟩
    rw [← hx] at e1 ga
    rw [← hy] at e2 gb
    have hstep := add_step (c := c) hx hy ga.1 gb.1 hlen hval
    obtain ⟨s0, hs0⟩ : ∃ s0, s0 = x.toNat + y.toNat + c := ⟨_, rfl⟩
    rw [← hs0] at hstep
    have hsum : x + y + (c : Int) = (s0 : Int) := by omega
    have hs9 : s0 < 2000000000 := by omega
    have hr : ((s0 : Nat) : Int).tmod 1000000000 = ((s0 % 1000000000 : Nat) : Int) := by rw [Int.tmod_eq_emod_of_nonneg (by omega)]; rfl
    have hq : ((s0 : Nat) : Int).tdiv 1000000000 = ((s0 / 1000000000 : Nat) : Int) := by rw [Int.tdiv_eq_ediv_of_nonneg (by omega)]; rfl
    have hc' : s0 / 1000000000 ≤ 1 := by omega
    have hmeas : 2 * (N - (i + 1)) + s0 / 1000000000 < k := by
      by_cases hm : i < N
      · omega
      · have : c = 1 := by omega
        have hx0 : x = 0 := by rw [hx]; exact getD_out (by omega)
        have hy0 : y = 0 := by rw [hy]; exact getD_out (by omega)
        subst hx0; subst hy0
        have : s0 = 1 := by rw [hs0, this]; rfl
        subst this
        omega
    have hdg' : dg (out ++ [((s0 % 1000000000 : Nat) : Int)]) := dg_append.2 ⟨hdg, dg_one.2 (by omega)⟩
    have hlen' : (out ++ [((s0 % 1000000000 : Nat) : Int)]).length = i + 1 := by simp [hlen]
    have hic' : i + 1 ≤ N ∨ s0 / 1000000000 = 0 := by
      by_cases hm : i < N
      · exact .inl hm
      · right
        have : c = 1 := by omega
        have hx0 : x = 0 := by rw [hx]; exact getD_out (by omega)
        have hy0 : y = 0 := by rw [hy]; exact getD_out (by omega)
        subst hx0; subst hy0
        have : s0 = 1 := by rw [hs0, this]; rfl
        subst this
        rfl
    have fin : ∃ s', D P L c295_0 s = some (.normal, s') ∧ compact [0, 1, 5, 6, 7] s' = ⟨[(0, v), (1, w), (5, .osl 0 0 (i + 1)), (6, I64 (s0 / 1000000000 : Nat)), (7, I64 (i + 1 : Nat))], [(0, .cells true true false 1 ((out ++ [((s0 % 1000000000 : Nat) : Int)]).map I64))], 1, 0⟩ := by
      have three : ((i : Int) < a.length) ∨ (¬ (i : Int) < a.length ∧ (i : Int) < b.length) ∨ (¬ (i : Int) < a.length ∧ ¬ (i : Int) < b.length ∧ (0 : Int) < c) := by omega
      rcases three with t1 | ⟨t1, t2⟩ | ⟨t1, t2, t3⟩
      · rcases hs with ⟨h0, rfl⟩ | ⟨h0, rfl⟩
        · subst h0
          have hnil : out = [] := List.eq_nil_of_length_eq_zero hlen
          subst hnil
          simp only [go_sem, Nat.reduceEqDiff, Nat.reduceAdd, Nat.reduceMul, Nat.reduceLT, Nat.reduceLeDiff, Nat.mul_one, c295_0, hv.len, hv.frz, hw.frz, t1, e1, e2, wrap64 (n := x + y) (by omega) (by omega), hsum, wrap64 (n := (s0 : Int)) (by omega) (by omega), bin_rem _ _ _ (show (1000000000 : Int) ≠ 0 by decide), bin_quo _ _ _ (show (1000000000 : Int) ≠ 0 by decide), hr, hq, wrap64 (n := ((s0 / 1000000000 : Nat) : Int)) (by omega) (by omega), app_nils]
          refine ⟨_, rfl, ?_⟩
          rw [wrap64 (by omega) (by omega)]
          simp only [go_sem, Nat.reduceEqDiff, Nat.reduceAdd, compact0, refs_pure hv.pu, ren_pure _ hv.pu, refs_pure hw.pu, ren_pure _ hw.pu] <;> rfl
        · simp only [go_sem, Nat.reduceEqDiff, Nat.reduceAdd, Nat.reduceLeDiff, Nat.mul_one, c295_0, hv.len, hv.frz, hw.frz, t1, e1, e2, wrap64 (n := x + y) (by omega) (by omega), hsum, wrap64 (n := (s0 : Int)) (by omega) (by omega), bin_rem _ _ _ (show (1000000000 : Int) ≠ 0 by decide), hr]
          rw [app_own (ex := false) (pu := true) (cs := out.map I64) (by simp only [go_sem, Nat.reduceEqDiff]) (by rw [List.length_map, hlen, Nat.mul_one]) (by omega) (by omega) (by decide) (by simp only [go_sem])]
          simp only [go_sem, Nat.reduceEqDiff, Nat.reduceAdd, bin_quo _ _ _ (show (1000000000 : Int) ≠ 0 by decide), hq, wrap64 (n := ((s0 / 1000000000 : Nat) : Int)) (by omega) (by omega)]
          refine ⟨_, rfl, ?_⟩
          rw [wrap64 (by omega) (by omega), List.map_append]
          simp only [go_sem, Nat.reduceEqDiff, Nat.reduceAdd, compact0, refs_pure hv.pu, ren_pure _ hv.pu, refs_pure hw.pu, ren_pure _ hw.pu] <;> rfl
      · rcases hs with ⟨h0, rfl⟩ | ⟨h0, rfl⟩
        · subst h0
          have hnil : out = [] := List.eq_nil_of_length_eq_zero hlen
          subst hnil
          simp only [go_sem, Nat.reduceEqDiff, Nat.reduceAdd, Nat.reduceMul, Nat.reduceLT, Nat.reduceLeDiff, Nat.mul_one, c295_0, hv.len, hv.frz, hw.len, hw.frz, t1, t2, e1, e2, wrap64 (n := x + y) (by omega) (by omega), hsum, wrap64 (n := (s0 : Int)) (by omega) (by omega), bin_rem _ _ _ (show (1000000000 : Int) ≠ 0 by decide), bin_quo _ _ _ (show (1000000000 : Int) ≠ 0 by decide), hr, hq, wrap64 (n := ((s0 / 1000000000 : Nat) : Int)) (by omega) (by omega), app_nils]
          refine ⟨_, rfl, ?_⟩
          rw [wrap64 (by omega) (by omega)]
          simp only [go_sem, Nat.reduceEqDiff, Nat.reduceAdd, compact0, refs_pure hv.pu, ren_pure _ hv.pu, refs_pure hw.pu, ren_pure _ hw.pu] <;> rfl
        · simp only [go_sem, Nat.reduceEqDiff, Nat.reduceAdd, Nat.reduceLeDiff, Nat.mul_one, c295_0, hv.len, hv.frz, hw.len, hw.frz, t1, t2, e1, e2, wrap64 (n := x + y) (by omega) (by omega), hsum, wrap64 (n := (s0 : Int)) (by omega) (by omega), bin_rem _ _ _ (show (1000000000 : Int) ≠ 0 by decide), hr]
          rw [app_own (ex := false) (pu := true) (cs := out.map I64) (by simp only [go_sem, Nat.reduceEqDiff]) (by rw [List.length_map, hlen, Nat.mul_one]) (by omega) (by omega) (by decide) (by simp only [go_sem])]
          simp only [go_sem, Nat.reduceEqDiff, Nat.reduceAdd, bin_quo _ _ _ (show (1000000000 : Int) ≠ 0 by decide), hq, wrap64 (n := ((s0 / 1000000000 : Nat) : Int)) (by omega) (by omega)]
          refine ⟨_, rfl, ?_⟩
          rw [wrap64 (by omega) (by omega), List.map_append]
          simp only [go_sem, Nat.reduceEqDiff, Nat.reduceAdd, compact0, refs_pure hv.pu, ren_pure _ hv.pu, refs_pure hw.pu, ren_pure _ hw.pu] <;> rfl
      · rcases hs with ⟨h0, rfl⟩ | ⟨h0, rfl⟩
        · subst h0
          have hnil : out = [] := List.eq_nil_of_length_eq_zero hlen
          subst hnil
          simp only [go_sem, Nat.reduceEqDiff, Nat.reduceAdd, Nat.reduceMul, Nat.reduceLT, Nat.reduceLeDiff, Nat.mul_one, c295_0, hv.len, hv.frz, hw.len, hw.frz, t1, t2, t3, e1, e2, wrap64 (n := x + y) (by omega) (by omega), hsum, wrap64 (n := (s0 : Int)) (by omega) (by omega), bin_rem _ _ _ (show (1000000000 : Int) ≠ 0 by decide), bin_quo _ _ _ (show (1000000000 : Int) ≠ 0 by decide), hr, hq, wrap64 (n := ((s0 / 1000000000 : Nat) : Int)) (by omega) (by omega), app_nils]
          refine ⟨_, rfl, ?_⟩
          rw [wrap64 (by omega) (by omega)]
          simp only [go_sem, Nat.reduceEqDiff, Nat.reduceAdd, compact0, refs_pure hv.pu, ren_pure _ hv.pu, refs_pure hw.pu, ren_pure _ hw.pu] <;> rfl
        · simp only [go_sem, Nat.reduceEqDiff, Nat.reduceAdd, Nat.reduceLeDiff, Nat.mul_one, c295_0, hv.len, hv.frz, hw.len, hw.frz, t1, t2, t3, e1, e2, wrap64 (n := x + y) (by omega) (by omega), hsum, wrap64 (n := (s0 : Int)) (by omega) (by omega), bin_rem _ _ _ (show (1000000000 : Int) ≠ 0 by decide), hr]
          rw [app_own (ex := false) (pu := true) (cs := out.map I64) (by simp only [go_sem, Nat.reduceEqDiff]) (by rw [List.length_map, hlen, Nat.mul_one]) (by omega) (by omega) (by decide) (by simp only [go_sem])]
          simp only [go_sem, Nat.reduceEqDiff, Nat.reduceAdd, bin_quo _ _ _ (show (1000000000 : Int) ≠ 0 by decide), hq, wrap64 (n := ((s0 / 1000000000 : Nat) : Int)) (by omega) (by omega)]
          refine ⟨_, rfl, ?_⟩
          rw [wrap64 (by omega) (by omega), List.map_append]
          simp only [go_sem, Nat.reduceEqDiff, Nat.reduceAdd, compact0, refs_pure hv.pu, ren_pure _ hv.pu, refs_pure hw.pu, ren_pure _ hw.pu] <;> rfl
    obtain ⟨s', f1, f2⟩ := fin
    exact ⟨s', _, f1, hmeas, i + 1, s0 / 1000000000, _, rfl, hlen', hc', hdg', hstep, by omega, hic', .inr ⟨by omega, f2⟩⟩
  · right
    have hc0 : c = 0 := by omega
    subst hc0
    rw [Nat.mul_zero, Nat.add_zero, List.take_of_length_le (by omega), List.take_of_length_le (by omega)] at hval
    rcases hs with ⟨h0, rfl⟩ | ⟨h0, rfl⟩
    · simp only [go_sem, Nat.reduceEqDiff, c295_0, hv.len, hw.len, show ¬ (i : Int) < a.length by omega, show ¬ (i : Int) < b.length by omega, show ¬ (0 : Int) < ((0 : Nat) : Int) by omega]
      exact ⟨_, _, rfl, by simp, _, out, rfl, hdg, hval, by omega, .inl ⟨List.eq_nil_of_length_eq_zero (by omega), by simp only [go_sem, Nat.reduceEqDiff], rfl⟩⟩
    · simp only [go_sem, Nat.reduceEqDiff, c295_0, hv.len, hw.len, show ¬ (i : Int) < a.length by omega, show ¬ (i : Int) < b.length by omega, show ¬ (0 : Int) < ((0 : Nat) : Int) by omega]
      exact ⟨_, _, rfl, by simp, _, out, rfl, hdg, hval, by omega, .inr ⟨by omega, by rw [hlen]; simp only [go_sem, Nat.reduceEqDiff], rfl⟩⟩
theorem a295 (h : Has P L 295 c295) (h302 : Has P L 302 c302) {v w : AV} {a b : List Int} (hv : IsI v a) (hw : IsI w b) (ha : dg a) (hb : dg b) (la : a.length ≤ 1000000) (lb : b.length ≤ 1000000) :
    ∃ r out, Ans P L 295 [v, w] r ∧ IsI (shut r) out ∧ dg out ∧ dv out = dv a + dv b ∧ out.length ≤ max a.length b.length + 1 := by
  have goal : ∃ out, Ans P L 295 [v, w] (if out = [] then .nils else .fsl false 1 out.length (out.map I64)) ∧ dg out ∧ dv out = dv a + dv b ∧ out.length ≤ max a.length b.length + 1 := by
    unfold Ans; rw [call_eq h]
    simp only [go_sem, c295]
    generalize hq : D P L (.loop [0, 1, 5, 6, 7] c295_0) _ = q
    obtain ⟨ex, s, rfl, tm, out, rfl, hd, hval, hl, hs⟩ := of_key hq (a295_0 (P := P) (L := L) h302 hv hw ha hb (N := max a.length b.length) (by omega) (by omega) (by omega) (2 * (max a.length b.length))) ⟨0, 0, [], by omega, rfl, by omega, rfl, by simp [dv], by omega, .inr rfl, .inl ⟨rfl, by simp only [go_sem, Nat.reduceEqDiff, compact0, refs_pure hv.pu, ren_pure _ hv.pu, refs_pure hw.pu, ren_pure _ hw.pu] <;> rfl⟩⟩
    refine ⟨out, ?_, hd, hval, hl⟩
    rcases hs with ⟨h0, h5, rfl⟩ | ⟨h0, h5, rfl⟩
    · rw [if_pos h0]
      simp only [go_sem, compact0, h5]
    · rw [if_neg (by intro e; subst e; simp at h0)]
      simp only [go_sem, Nat.reduceAdd, compact0, h5]
      exact result_own (hget_hit _ _ _) (by simp) (by decide)
  obtain ⟨out, g1, g2, g3, g4⟩ := goal
  refine ⟨_, out, g1, ?_, g2, g3, g4⟩
  split
  · rename_i e; subst e; exact isL_nils
  · exact isI_vsl false out
end
end VE
end
section
set_option maxRecDepth 100000
namespace VE
open Go (IntKind)
section
variable {P : Prog} {L : Lib}
theorem a296 (h : Has P L 296 c296) {v w : AV} {a b : List Int} (hv : IsI v a) (hw : IsI w b) (ha : dg a) (hb : dg b) (na : nz a) (nb : nz b) (la : a.length ≤ 1000000) (lb : b.length ≤ 1000000) :
    Ans P L 296 [v, w] (I64 (cmpN (dv a) (dv b))) := by
  unfold Ans; rw [call_eq h]
  by_cases hlen : a.length = b.length
  · have key := loop_can (P := P) (L := L) (live := [0, 1, 5]) (a := c296_0)
      (I := fun k st => ∃ j : Nat, st = ⟨[(0, v), (1, w), (5, I64 ((j : Int) - 1))], [], 0, 0⟩ ∧ j ≤ a.length ∧ j = k ∧ a.drop j = b.drop j)
      (Q := fun ex st => ∃ tm ct, st = ⟨tm, [], ct, 0⟩ ∧ ((ex = .ret ∧ tget tm 4 = I64 (cmpN (dv a) (dv b))) ∨ (ex = .exit 0 ∧ a = b))) ?_
    · simp only [go_sem, Nat.reduceEqDiff, c296, hv.len, hw.len, show (a.length : Int) = b.length by omega]
      generalize hq : D P L (.loop [0, 1, 5] c296_0) _ = q
      obtain ⟨ex, st, rfl, tm, ct, rfl, h2⟩ := of_key hq (key a.length) ⟨a.length, by
        rw [wrap64 (by omega) (by omega)]
        rw [hlen]
        simp only [go_sem, Nat.reduceEqDiff, compact0, refs_pure hv.pu, ren_pure _ hv.pu, refs_pure hw.pu, ren_pure _ hw.pu] <;> rfl, Nat.le_refl _, rfl, by rw [List.drop_eq_nil_of_le (Nat.le_refl _), List.drop_eq_nil_of_le (by omega)]⟩
      rcases h2 with ⟨rfl, h2⟩ | ⟨rfl, h2⟩
      · simp only [go_sem, h2]
      · simp only [go_sem, compact0]
        subst h2
        simp [cmpN]
    · rintro k st ⟨j, rfl, hj, rfl, he⟩
      cases j with
      | zero =>
        right
        simp only [go_sem, Nat.reduceEqDiff, c296_0, show ¬ (0 : Int) ≤ ((0 : Nat) : Int) - 1 by omega]
        exact ⟨_, _, rfl, by simp, _, _, rfl, .inr ⟨rfl, by simpa using he⟩⟩
      | succ i =>
        have h1 : i < a.length := by omega
        have h2 : i < b.length := by omega
        have hgt := dv_less ha hb h1 h2 he
        have hlt := dv_less hb ha h2 h1 he.symm
        by_cases c1 : a[i] < b[i]
        · right
          simp only [go_sem, Nat.reduceEqDiff, c296_0, show ((i + 1 : Nat) : Int) - 1 = (i : Int) by omega, show (0 : Int) ≤ (i : Int) by omega, hv.ixa h1, hw.ixa h2, c1]
          refine ⟨_, _, rfl, by simp, _, _, rfl, .inl ⟨rfl, ?_⟩⟩
          simp only [go_sem]
          unfold cmpN; rw [if_pos (hgt c1)]
        · by_cases c2 : b[i] < a[i]
          · right
            simp only [go_sem, Nat.reduceEqDiff, c296_0, show ((i + 1 : Nat) : Int) - 1 = (i : Int) by omega, show (0 : Int) ≤ (i : Int) by omega, hv.ixa h1, hw.ixa h2, c1, c2]
            refine ⟨_, _, rfl, by simp, _, _, rfl, .inl ⟨rfl, ?_⟩⟩
            simp only [go_sem]
            have := hlt c2
            unfold cmpN; rw [if_neg (by omega), if_pos (by omega)]
          · left
            simp only [go_sem, Nat.reduceEqDiff, c296_0, show ((i + 1 : Nat) : Int) - 1 = (i : Int) by omega, show (0 : Int) ≤ (i : Int) by omega, hv.ixa h1, hw.ixa h2, c1, c2]
            refine ⟨_, i, rfl, by omega, i, ?_, by omega, rfl, ?_⟩
            · rw [wrap64 (by omega) (by omega)]
              simp only [go_sem, Nat.reduceEqDiff, compact0, refs_pure hv.pu, ren_pure _ hv.pu, refs_pure hw.pu, ren_pure _ hw.pu] <;> rfl
            · rw [List.drop_eq_getElem_cons h1, List.drop_eq_getElem_cons h2, he, show a[i] = b[i] by omega]
  · by_cases c1 : a.length < b.length
    · have := nz_len ha nb hb c1
      simp only [go_sem, Nat.reduceEqDiff, c296, hv.len, hw.len, show ¬ (a.length : Int) = b.length by omega, show (a.length : Int) < b.length by omega]
      unfold cmpN; rw [if_pos this]
    · have := nz_len hb na ha (show b.length < a.length by omega)
      simp only [go_sem, Nat.reduceEqDiff, c296, hv.len, hw.len, show ¬ (a.length : Int) = b.length by omega, show ¬ (a.length : Int) < b.length by omega]
      unfold cmpN; rw [if_neg (by omega), if_pos this]
theorem sub_step {a b out : List Int} {i c : Nat} {x y z : Int} {c' : Nat} (hx : x = a.getD i 0) (hy : y = b.getD i 0) (h1 : 0 ≤ x) (h2 : 0 ≤ y) (h3 : 0 ≤ z) (hz : z = x - y - c + 1000000000 * c') (hl : out.length = i) (hv : dv out + dv (b.take i) = dv (a.take i) + 1000000000 ^ i * c) :
    dv (out ++ [z]) + dv (b.take (i + 1)) = dv (a.take (i + 1)) + 1000000000 ^ (i + 1) * c' := by
  rw [dv_take, dv_take, dv_append, hl, ← hx, ← hy]
  simp only [dv, Nat.mul_zero, Nat.add_zero, Nat.pow_succ]
  have e : z.toNat + y.toNat + c = x.toNat + 1000000000 * c' := by omega
  have := congrArg (fun q => 1000000000 ^ i * q) e
  simp only [Nat.mul_add] at this
  rw [Nat.mul_assoc (1000000000 ^ i) 1000000000 c']
  omega
end
end VE
end
section
set_option maxRecDepth 100000
namespace VE
open Go (IntKind)
section
variable {P : Prog} {L : Lib}
theorem a297_0 (h302 : Has P L 302 c302) {v w : AV} {a b : List Int} (hv : IsI v a) (hw : IsI w b) (ha : dg a) (hb : dg b) (la : a.length ≤ 1000000) (hle : dv b ≤ dv a) (hbl : b.length ≤ a.length) :
    ∀ k s, (∃ (i c : Nat) (out : List Int), i + k = a.length ∧ out.length = i ∧ c ≤ 1 ∧ dg out ∧ dv out + dv (b.take i) = dv (a.take i) + 1000000000 ^ i * c ∧
        ((i = 0 ∧ compact [0, 1, 5, 6, 7] s = ⟨[(0, v), (1, w), (5, .nils), (6, I64 c), (7, I64 i)], [], 0, 0⟩) ∨
        (0 < i ∧ compact [0, 1, 5, 6, 7] s = ⟨[(0, v), (1, w), (5, .osl 0 0 i), (6, I64 c), (7, I64 i)], [(0, .cells true true false 1 (out.map I64))], 1, 0⟩))) →
      ∃ ex s', D P L (.loop [0, 1, 5, 6, 7] c297_0) s = some (ex, s') ∧ ∃ tm out, ex = .exit 0 ∧ dg out ∧ dv out + dv b = dv a ∧ out.length ≤ 1000000 ∧ ((out = [] ∧ tget tm 5 = .nils ∧ s' = ⟨tm, [], 0, 0⟩) ∨ (0 < out.length ∧ tget tm 5 = .osl 0 0 out.length ∧ s' = ⟨tm, [(0, .cells true true false 1 (out.map I64))], 1, 0⟩)) := by
  refine loop_can (I := fun k s => ∃ (i c : Nat) (out : List Int), i + k = a.length ∧ out.length = i ∧ c ≤ 1 ∧ dg out ∧ dv out + dv (b.take i) = dv (a.take i) + 1000000000 ^ i * c ∧
        ((i = 0 ∧ s = ⟨[(0, v), (1, w), (5, .nils), (6, I64 c), (7, I64 i)], [], 0, 0⟩) ∨
        (0 < i ∧ s = ⟨[(0, v), (1, w), (5, .osl 0 0 i), (6, I64 c), (7, I64 i)], [(0, .cells true true false 1 (out.map I64))], 1, 0⟩)))
    (Q := fun ex s' => ∃ tm out, ex = .exit 0 ∧ dg out ∧ dv out + dv b = dv a ∧ out.length ≤ 1000000 ∧ ((out = [] ∧ tget tm 5 = .nils ∧ s' = ⟨tm, [], 0, 0⟩) ∨ (0 < out.length ∧ tget tm 5 = .osl 0 0 out.length ∧ s' = ⟨tm, [(0, .cells true true false 1 (out.map I64))], 1, 0⟩))) ?_
  rintro k s ⟨i, c, out, hk, hlen, hc, hdg, hval, hs⟩
  have e2 := a302 h302 hw i
  unfold Ans at e2
  have ga := dg_get ha i
  have gb := dg_get hb i
  by_cases hgo : i < a.length
  · left
    obtain ⟨x, hx⟩ : ∃ x, x = a.getD i 0 := ⟨_, rfl⟩
    obtain ⟨y, hy⟩ : ∃ y, y = b.getD i 0 := ⟨_, rfl⟩
    have hx' : a[i] = x := by rw [hx]; simp [List.getD_eq_getElem?_getD, List.getElem?_eq_getElem hgo]
    have e1 := hv.ixa hgo
    rw [hx'] at e1
    rw [← hx] at ga
    rw [← hy] at e2 gb
    obtain ⟨z, c', hz, hc', hz0, hz1, hcase⟩ : ∃ (z : Int) (c' : Nat), z = x - y - c + 1000000000 * c' ∧ c' ≤ 1 ∧ 0 ≤ z ∧ z < 1000000000 ∧ ((x - y - c < 0 ∧ c' = 1) ∨ (¬ x - y - c < 0 ∧ c' = 0)) := by
      by_cases h : x - y - c < 0
      · exact ⟨x - y - c + 1000000000, 1, by omega, by omega, by omega, by omega, .inl ⟨h, rfl⟩⟩
      · exact ⟨x - y - c, 0, by omega, by omega, by omega, by omega, .inr ⟨h, rfl⟩⟩
    have hstep := sub_step hx hy ga.1 gb.1 hz0 hz hlen hval
    have hdg' : dg (out ++ [z]) := dg_append.2 ⟨hdg, dg_one.2 ⟨hz0, hz1⟩⟩
    have hlen' : (out ++ [z]).length = i + 1 := by simp [hlen]
    have fin : ∃ s', D P L c297_0 s = some (.normal, s') ∧ compact [0, 1, 5, 6, 7] s' = ⟨[(0, v), (1, w), (5, .osl 0 0 (i + 1)), (6, I64 c'), (7, I64 (i + 1 : Nat))], [(0, .cells true true false 1 ((out ++ [z]).map I64))], 1, 0⟩ := by
      rcases hcase with ⟨hneg, rfl⟩ | ⟨hneg, rfl⟩
      · have hz' : x - y - c + 1000000000 = z := by omega
        rcases hs with ⟨h0, rfl⟩ | ⟨h0, rfl⟩
        · subst h0
          have hnil : out = [] := List.eq_nil_of_length_eq_zero hlen
          subst hnil
          simp only [go_sem, Nat.reduceEqDiff, Nat.reduceAdd, Nat.reduceMul, Nat.reduceLT, Nat.reduceLeDiff, Nat.mul_one, c297_0, hv.len, hw.frz, show ((0 : Nat) : Int) < a.length by omega, e1, e2, wrap64 (n := x - y) (by omega) (by omega), wrap64 (n := x - y - (c : Int)) (by omega) (by omega), hneg, hz', wrap64 (n := z) (by omega) (by omega), app_nils]
          refine ⟨_, rfl, ?_⟩
          rw [wrap64 (by omega) (by omega)]
          simp only [go_sem, Nat.reduceEqDiff, Nat.reduceAdd, compact0, refs_pure hv.pu, ren_pure _ hv.pu, refs_pure hw.pu, ren_pure _ hw.pu] <;> rfl
        · simp only [go_sem, Nat.reduceEqDiff, Nat.reduceAdd, Nat.reduceLeDiff, Nat.mul_one, c297_0, hv.len, hw.frz, show (i : Int) < a.length by omega, e1, e2, wrap64 (n := x - y) (by omega) (by omega), wrap64 (n := x - y - (c : Int)) (by omega) (by omega), hneg, hz', wrap64 (n := z) (by omega) (by omega)]
          rw [app_own (ex := false) (pu := true) (cs := out.map I64) (by simp only [go_sem, Nat.reduceEqDiff]) (by rw [List.length_map, hlen, Nat.mul_one]) (by omega) (by omega) (by decide) (by simp only [go_sem])]
          simp only [go_sem, Nat.reduceEqDiff, Nat.reduceAdd]
          refine ⟨_, rfl, ?_⟩
          rw [wrap64 (by omega) (by omega), List.map_append]
          simp only [go_sem, Nat.reduceEqDiff, Nat.reduceAdd, compact0, refs_pure hv.pu, ren_pure _ hv.pu, refs_pure hw.pu, ren_pure _ hw.pu] <;> rfl
      · have hz' : x - y - c = z := by omega
        have hneg : ¬ z < 0 := by omega
        rcases hs with ⟨h0, rfl⟩ | ⟨h0, rfl⟩
        · subst h0
          have hnil : out = [] := List.eq_nil_of_length_eq_zero hlen
          subst hnil
          simp only [go_sem, Nat.reduceEqDiff, Nat.reduceAdd, Nat.reduceMul, Nat.reduceLT, Nat.reduceLeDiff, Nat.mul_one, c297_0, hv.len, hw.frz, show ((0 : Nat) : Int) < a.length by omega, e1, e2, wrap64 (n := x - y) (by omega) (by omega), hz', wrap64 (n := z) (by omega) (by omega), hneg, app_nils]
          refine ⟨_, rfl, ?_⟩
          rw [wrap64 (by omega) (by omega)]
          simp only [go_sem, Nat.reduceEqDiff, Nat.reduceAdd, compact0, refs_pure hv.pu, ren_pure _ hv.pu, refs_pure hw.pu, ren_pure _ hw.pu] <;> rfl
        · simp only [go_sem, Nat.reduceEqDiff, Nat.reduceAdd, Nat.reduceLeDiff, Nat.mul_one, c297_0, hv.len, hw.frz, show (i : Int) < a.length by omega, e1, e2, wrap64 (n := x - y) (by omega) (by omega), hz', wrap64 (n := z) (by omega) (by omega), hneg]
          rw [app_own (ex := false) (pu := true) (cs := out.map I64) (by simp only [go_sem, Nat.reduceEqDiff]) (by rw [List.length_map, hlen, Nat.mul_one]) (by omega) (by omega) (by decide) (by simp only [go_sem])]
          simp only [go_sem, Nat.reduceEqDiff, Nat.reduceAdd]
          refine ⟨_, rfl, ?_⟩
          rw [wrap64 (by omega) (by omega), List.map_append]
          simp only [go_sem, Nat.reduceEqDiff, Nat.reduceAdd, compact0, refs_pure hv.pu, ren_pure _ hv.pu, refs_pure hw.pu, ren_pure _ hw.pu] <;> rfl
    obtain ⟨s', f1, f2⟩ := fin
    exact ⟨s', k - 1, f1, by omega, i + 1, c', _, by omega, hlen', hc', hdg', hstep, .inr ⟨by omega, f2⟩⟩
  · right
    have hi : i = a.length := by omega
    have hval0 : dv out + dv b = dv a := by
      rw [List.take_of_length_le (by omega), List.take_of_length_le (by omega)] at hval
      have hlt := dv_lt hdg
      rw [hlen] at hlt
      rcases (show c = 0 ∨ c = 1 by omega) with rfl | rfl
      · omega
      · omega
    rcases hs with ⟨h0, rfl⟩ | ⟨h0, rfl⟩
    · simp only [go_sem, Nat.reduceEqDiff, c297_0, hv.len, show ¬ (i : Int) < a.length by omega]
      exact ⟨_, _, rfl, by simp, _, out, rfl, hdg, hval0, by omega, .inl ⟨List.eq_nil_of_length_eq_zero (by omega), by simp only [go_sem, Nat.reduceEqDiff], rfl⟩⟩
    · simp only [go_sem, Nat.reduceEqDiff, c297_0, hv.len, show ¬ (i : Int) < a.length by omega]
      exact ⟨_, _, rfl, by simp, _, out, rfl, hdg, hval0, by omega, .inr ⟨by omega, by rw [hlen]; simp only [go_sem, Nat.reduceEqDiff], rfl⟩⟩
theorem a297 (h : Has P L 297 c297) (h302 : Has P L 302 c302) (h300 : Has P L 300 c300) {v w : AV} {a b : List Int} (hv : IsI v a) (hw : IsI w b) (ha : dg a) (hb : dg b) (na : nz a) (nb : nz b) (la : a.length ≤ 1000000) (hle : dv b ≤ dv a) :
    ∃ r out, Ans P L 297 [v, w] r ∧ IsI r out ∧ shut r = r ∧ dg out ∧ nz out ∧ dv out + dv b = dv a := by
  have hbl : b.length ≤ a.length := by
    by_cases h : a.length < b.length
    · have := nz_len ha nb hb h; omega
    · omega
  unfold Ans; rw [call_eq h]
  simp only [go_sem, c297]
  generalize hq : D P L (.loop [0, 1, 5, 6, 7] c297_0) _ = q
  obtain ⟨ex, s, rfl, tm, out, rfl, hd, hval, hl, hs⟩ := of_key hq (a297_0 (P := P) (L := L) h302 hv hw ha hb la hle hbl a.length) ⟨0, 0, [], by omega, rfl, by omega, rfl, by simp [dv], .inl ⟨rfl, by simp only [go_sem, Nat.reduceEqDiff, compact0, refs_pure hv.pu, ren_pure _ hv.pu, refs_pure hw.pu, ren_pure _ hw.pu] <;> rfl⟩⟩
  have hfz := isI_vsl false out
  rcases hs with ⟨h0, h5, rfl⟩ | ⟨h0, h5, rfl⟩
  · subst h0
    obtain ⟨r, e1, hr, hsh⟩ := a300 h300 (v := .nils) (l := []) isL_nils (by simp)
    unfold Ans at e1
    refine ⟨r, trimL [], ?_, hr, hsh, rfl, rfl, by rw [trimL_dv]; exact hval⟩
    simp only [go_sem, compact0, h5, e1, hsh, hr.res]
  · obtain ⟨r, e1, hr, hsh⟩ := a300 h300 hfz hl
    unfold Ans at e1
    refine ⟨r, trimL out, ?_, hr, hsh, trimL_dg hd, nz_trim out, by rw [trimL_dv]; exact hval⟩
    have hfr : ∀ hp : Hp, frzO 0 out.length (some (false, 1, out.map I64, hp)) = some (.vsl false out.length (out.map I64), hp) := fun hp => frzO_all false (by simp) (by decide)
    simp only [go_sem, Nat.reduceAdd, compact0, h5, hfr, e1, hsh, hr.res]
end
end VE
end
section
set_option maxRecDepth 100000
namespace VE
open Go (IntKind)
theorem stD {hp : Hp} {ct id o : Nat} {v : Int} {ex : Bool} {l : List Int} (h : o < l.length) : stC hp ct id o 1 [.int .i64 v] (some (.cells true true ex 1 (l.map I64))) = some (.tup [], hset hp id (.cells true true ex 1 ((l.set o v).map I64)), ct) := by
  rw [stC_n (by rfl) (by simp; omega) (by rfl)]
  have : over o [AV.int .i64 v] (l.map I64) = (l.set o v).map I64 := by
    simp only [over, List.length_cons, List.length_nil, Nat.zero_add]
    rw [List.map_set, List.set_eq_take_append_cons_drop, if_pos (by simpa using h)]
    simp
  rw [this]
  rfl
theorem dropD {l : List Int} {o : Nat} (h : o < l.length) : List.drop o (l.map I64) = AV.int .i64 (l.getD o 0) :: List.drop (o + 1) (l.map I64) := by
  rw [List.drop_eq_getElem_cons (by simpa using h)]
  simp [List.getD_eq_getElem?_getD, List.getElem?_eq_getElem h]
theorem ixa_D {v : AV} {l : List Int} (hv : IsI v l) {i : Nat} (h : i < l.length) : ixaOp 1 i v = some (.vptr (.int .i64 (l.getD i 0) :: (l.map I64).drop (i + 1))) := by
  rw [hv.ixa h]
  simp [List.getD_eq_getElem?_getD, List.getElem?_eq_getElem h]
theorem dig_prod {o x y c : Int} (ho : 0 ≤ o ∧ o < 1000000000) (hx : 0 ≤ x ∧ x < 1000000000) (hy : 0 ≤ y ∧ y < 1000000000) (hc : 0 ≤ c ∧ c < 1000000000) :
    (0 ≤ x * y ∧ x * y ≤ 999999998000000001) ∧ 0 ≤ o + x * y + c ∧ o + x * y + c < 1000000000000000000 := by
  have h1 := Int.mul_nonneg hx.1 hy.1
  have h2 := Int.mul_le_mul (show x ≤ 999999999 by omega) (show y ≤ 999999999 by omega) hy.1 (by decide)
  omega
section
variable {P : Prog} {L : Lib}
theorem a293_0 {v w : AV} {a b : List Int} (hv : IsI v a) (hw : IsI w b) (ha : dg a) (hb : dg b) (la : a.length ≤ 1000000) (lb : b.length ≤ 1000000) {n i : Nat} (hn : n = a.length + b.length) (hi : i < a.length) {out0 : List Int} :
    ∀ k s, (∃ (j : Nat) (c : Int) (out : List Int), compact [0, 1, 5, 6, 7, 8] s = ⟨[(0, v), (1, w), (5, .osl 0 0 n), (6, I64 i), (7, I64 c), (8, I64 j)], [(0, .cells true true true 1 (out.map I64))], 1, 0⟩ ∧ j + k = b.length ∧ out.length = n ∧ dg out ∧ (0 ≤ c ∧ c < 1000000000) ∧
        dv out + 1000000000 ^ i * 1000000000 ^ j * c.toNat = dv out0 + 1000000000 ^ i * ((a.getD i 0).toNat * dv (b.take j)) ∧ (∀ m, i + b.length ≤ m → out.getD m 0 = out0.getD m 0)) →
      ∃ ex s', D P L (.loop [0, 1, 5, 6, 7, 8] c293_0) s = some (ex, s') ∧ ∃ tm c out, s' = ⟨tm, [(0, .cells true true true 1 (out.map I64))], 1, 0⟩ ∧ ex = .exit 2 ∧ tget tm 0 = v ∧ tget tm 1 = w ∧ tget tm 5 = .osl 0 0 n ∧ tget tm 6 = I64 i ∧ tget tm 7 = I64 c ∧ out.length = n ∧ dg out ∧ (0 ≤ c ∧ c < 1000000000) ∧
        dv out + 1000000000 ^ i * 1000000000 ^ b.length * c.toNat = dv out0 + 1000000000 ^ i * ((a.getD i 0).toNat * dv b) ∧ (∀ m, i + b.length ≤ m → out.getD m 0 = out0.getD m 0) := by
  refine loop_can (I := fun k s => ∃ (j : Nat) (c : Int) (out : List Int), s = ⟨[(0, v), (1, w), (5, .osl 0 0 n), (6, I64 i), (7, I64 c), (8, I64 j)], [(0, .cells true true true 1 (out.map I64))], 1, 0⟩ ∧ j + k = b.length ∧ out.length = n ∧ dg out ∧ (0 ≤ c ∧ c < 1000000000) ∧
        dv out + 1000000000 ^ i * 1000000000 ^ j * c.toNat = dv out0 + 1000000000 ^ i * ((a.getD i 0).toNat * dv (b.take j)) ∧ (∀ m, i + b.length ≤ m → out.getD m 0 = out0.getD m 0))
    (Q := fun ex s' => ∃ tm c out, s' = ⟨tm, [(0, .cells true true true 1 (out.map I64))], 1, 0⟩ ∧ ex = .exit 2 ∧ tget tm 0 = v ∧ tget tm 1 = w ∧ tget tm 5 = .osl 0 0 n ∧ tget tm 6 = I64 i ∧ tget tm 7 = I64 c ∧ out.length = n ∧ dg out ∧ (0 ≤ c ∧ c < 1000000000) ∧
        dv out + 1000000000 ^ i * 1000000000 ^ b.length * c.toNat = dv out0 + 1000000000 ^ i * ((a.getD i 0).toNat * dv b) ∧ (∀ m, i + b.length ≤ m → out.getD m 0 = out0.getD m 0)) ?_
  rintro k s ⟨j, c, out, rfl, hk, hlen, hd, hc, hval, hhi⟩
  by_cases hj : j < b.length
  · left
    obtain ⟨x, hx⟩ : ∃ x, x = a.getD i 0 := ⟨_, rfl⟩
    obtain ⟨y, hy⟩ : ∃ y, y = b.getD j 0 := ⟨_, rfl⟩
    obtain ⟨o, ho⟩ : ∃ o, o = out.getD (i + j) 0 := ⟨_, rfl⟩
    have gx := dg_get ha i
    have gy := dg_get hb j
    have go' := dg_get hd (i + j)
    rw [← hx] at gx; rw [← hy] at gy; rw [← ho] at go'
    obtain ⟨p1, p2, p3⟩ := dig_prod go' gx gy hc
    obtain ⟨t, ht⟩ : ∃ t : Nat, o + x * y + c = t := ⟨(o + x * y + c).toNat, by omega⟩
    have hr : ((t : Nat) : Int).tmod 1000000000 = ((t % 1000000000 : Nat) : Int) := by rw [Int.tmod_eq_emod_of_nonneg (by omega)]; rfl
    have hq : ((t : Nat) : Int).tdiv 1000000000 = ((t / 1000000000 : Nat) : Int) := by rw [Int.tdiv_eq_ediv_of_nonneg (by omega)]; rfl
    have e1 := ixa_D hv hi
    have e2 := ixa_D hw hj
    rw [← hx] at e1; rw [← hy] at e2
    have e3 := dropD (l := out) (o := i + j) (by omega)
    rw [← ho] at e3
    have ht' : t = o.toNat + x.toNat * y.toNat + c.toNat := by
      have : ((x.toNat * y.toNat : Nat) : Int) = x * y := by rw [Int.natCast_mul, Int.toNat_of_nonneg gx.1, Int.toNat_of_nonneg gy.1]
      omega
    have hset := dv_set (l := out) (j := i + j) (x := ((t % 1000000000 : Nat) : Int)) (by omega)
    rw [← ho, Int.toNat_natCast, Nat.pow_add] at hset
    have hstep := mul_step (Y := dv (b.take j)) ht' hset (by rw [hx]; exact hval)
    simp only [go_sem, Nat.reduceEqDiff, Nat.mul_one, c293_0, hw.len, show (j : Int) < b.length by omega, wrapN (n := i + j) (by omega), show (i : Int) + (j : Int) = ((i + j : Nat) : Int) from rfl, ixa_osl 0 0 (show i + j < n by omega), Nat.zero_add, e3, e1, e2, wrap64 (n := x * y) (by omega) (by omega), wrap64 (n := o + x * y) (by omega) (by omega), ht, wrapN (n := t) (by omega), bin_rem _ _ _ (show (1000000000 : Int) ≠ 0 by decide), bin_quo _ _ _ (show (1000000000 : Int) ≠ 0 by decide), hr, hq, wrapN (n := t / 1000000000) (by omega), stD (l := out) (o := i + j) (by omega)]
    refine ⟨_, k - 1, rfl, by omega, j + 1, ((t / 1000000000 : Nat) : Int), out.set (i + j) ((t % 1000000000 : Nat) : Int), ?_, by omega, by simp [hlen], dg_set hd (by omega), by omega, ?_, fun m hm => ?_⟩
    · rw [wrap64 (by omega) (by omega)]
      simp only [go_sem, Nat.reduceEqDiff, Nat.reduceAdd, compact0, refs_pure hv.pu, ren_pure _ hv.pu, refs_pure hw.pu, ren_pure _ hw.pu] <;> rfl
    · rw [Int.toNat_natCast, dv_take, Nat.pow_succ, ← hx, ← hy]; exact hstep
    · rw [getD_set (by omega)]; exact hhi m hm
  · right
    have : j = b.length := by omega
    subst this
    rw [List.take_length] at hval
    simp only [go_sem, Nat.reduceEqDiff, c293_0, hw.len, show ¬ (b.length : Int) < b.length by omega]
    exact ⟨_, _, rfl, by simp, _, c, out, rfl, rfl, by simp only [go_sem, Nat.reduceEqDiff], by simp only [go_sem, Nat.reduceEqDiff], by simp only [go_sem, Nat.reduceEqDiff], by simp only [go_sem, Nat.reduceEqDiff], by simp only [go_sem, Nat.reduceEqDiff], hlen, hd, hc, hval, hhi⟩
end
end VE
end
section
set_option maxRecDepth 100000
namespace VE
open Go (IntKind)
theorem flat_zeros (n : Nat) : (List.replicate n [AV.int .i64 0]).flatten = (List.replicate n (0 : Int)).map I64 := by
  induction n with
  | zero => rfl
  | succ n ih => simp only [List.replicate_succ, List.flatten_cons, ih, List.map_cons]; rfl
theorem eqB'_nt (b : Bool) : eqB' true (some b) = some (.bool (!b)) := by cases b <;> rfl
theorem getD_zeros (n m : Nat) : (List.replicate n (0 : Int)).getD m 0 = 0 := by
  simp [List.getD_eq_getElem?_getD, List.getElem?_replicate]; split <;> rfl
section
variable {P : Prog} {L : Lib}
theorem a293_1 {v w : AV} {a b : List Int} (hv : IsI v a) (hw : IsI w b) (ha : dg a) (hb : dg b) (la : a.length ≤ 1000000) (lb : b.length ≤ 1000000) {n : Nat} (hn : n = a.length + b.length) :
    ∀ k s, (∃ (i : Nat) (out : List Int), compact [0, 1, 5, 6] s = ⟨[(0, v), (1, w), (5, .osl 0 0 n), (6, I64 i)], [(0, .cells true true true 1 (out.map I64))], 1, 0⟩ ∧ i + k = a.length ∧ out.length = n ∧ dg out ∧ dv out = dv (a.take i) * dv b ∧ (∀ m, i + b.length ≤ m → out.getD m 0 = 0)) →
      ∃ ex s', D P L (.loop [0, 1, 5, 6] c293_1) s = some (ex, s') ∧ ∃ tm out, s' = ⟨tm, [(0, .cells true true true 1 (out.map I64))], 1, 0⟩ ∧ ex = .exit 0 ∧ tget tm 5 = .osl 0 0 n ∧ out.length = n ∧ dg out ∧ dv out = dv a * dv b := by
  refine loop_can (I := fun k s => ∃ (i : Nat) (out : List Int), s = ⟨[(0, v), (1, w), (5, .osl 0 0 n), (6, I64 i)], [(0, .cells true true true 1 (out.map I64))], 1, 0⟩ ∧ i + k = a.length ∧ out.length = n ∧ dg out ∧ dv out = dv (a.take i) * dv b ∧ (∀ m, i + b.length ≤ m → out.getD m 0 = 0))
    (Q := fun ex s' => ∃ tm out, s' = ⟨tm, [(0, .cells true true true 1 (out.map I64))], 1, 0⟩ ∧ ex = .exit 0 ∧ tget tm 5 = .osl 0 0 n ∧ out.length = n ∧ dg out ∧ dv out = dv a * dv b) ?_
  rintro k s ⟨i, out, rfl, hk, hlen, hd, hval, hhi⟩
  by_cases hi : i < a.length
  · left
    simp only [go_sem, Nat.reduceEqDiff, c293_1, hv.len, show (i : Int) < a.length by omega]
    generalize hq : D P L (.loop [0, 1, 5, 6, 7, 8] c293_0) _ = q
    obtain ⟨ex, s, rfl, tm, c, out1, rfl, rfl, t0, t1, t5, t6, t7, hlen1, hd1, hc, hval1, hhi1⟩ := of_key hq (a293_0 (P := P) (L := L) hv hw ha hb la lb hn hi (out0 := out) b.length) ⟨0, 0, out, by simp only [go_sem, Nat.reduceEqDiff, Nat.reduceAdd, compact0, refs_pure hv.pu, ren_pure _ hv.pu, refs_pure hw.pu, ren_pure _ hw.pu] <;> rfl, by omega, hlen, hd, by omega, by simp [dv], fun m _ => rfl⟩
    have hz : out1.getD (i + b.length) 0 = 0 := by rw [hhi1 _ (Nat.le_refl _), hhi _ (Nat.le_refl _)]
    have e3 := dropD (l := out1) (o := i + b.length) (by omega)
    rw [hz] at e3
    have hset := dv_set (l := out1) (j := i + b.length) (x := c) (by omega)
    rw [hz, Nat.pow_add] at hset
    simp only [go_sem, Nat.reduceEqDiff, Nat.mul_one, compact0, t0, t1, t5, t6, t7, hw.len, refs_pure hv.pu, ren_pure _ hv.pu, refs_pure hw.pu, ren_pure _ hw.pu, wrapN (n := i + b.length) (by omega), show (i : Int) + (b.length : Int) = ((i + b.length : Nat) : Int) from rfl, ixa_osl 0 0 (show i + b.length < n by omega), Nat.zero_add, e3, Int.zero_add, wrap64 (n := c) (by omega) (by omega), stD (l := out1) (o := i + b.length) (by omega)]
    refine ⟨_, k - 1, rfl, by omega, i + 1, out1.set (i + b.length) c, ?_, by omega, by simp [hlen1], dg_set hd1 hc, ?_, fun m hm => ?_⟩
    · rw [wrap64 (by omega) (by omega)]
      simp only [go_sem, Nat.reduceEqDiff, Nat.reduceAdd, compact0, refs_pure hv.pu, ren_pure _ hv.pu, refs_pure hw.pu, ren_pure _ hw.pu] <;> rfl
    · rw [dv_take, Nat.add_mul, ← hval, Nat.mul_assoc]
      simp only [Int.toNat_zero, Nat.mul_zero, Nat.add_zero] at hset
      rw [hset]; exact hval1
    · rw [getD_set (by omega), hhi1 m (by omega), hhi m (by omega)]
  · right
    have : i = a.length := by omega
    subst this
    rw [List.take_length] at hval
    simp only [go_sem, Nat.reduceEqDiff, c293_1, hv.len, show ¬ (a.length : Int) < a.length by omega]
    exact ⟨_, _, rfl, by simp, _, out, rfl, rfl, by simp only [go_sem, Nat.reduceEqDiff], hlen, hd, hval⟩
theorem a293 (h : Has P L 293 c293) (h300 : Has P L 300 c300) {v w : AV} {a b : List Int} (hv : IsI v a) (hw : IsI w b) (ha : dg a) (hb : dg b) (la : a.length ≤ 400000) (lb : b.length ≤ 400000) :
    ∃ r out, Ans P L 293 [v, w] r ∧ IsI r out ∧ shut r = r ∧ dg out ∧ nz out ∧ dv out = dv a * dv b := by
  obtain ⟨n, hn⟩ : ∃ n, n = a.length + b.length := ⟨_, rfl⟩
  have hmk : ∀ ct : Nat, mksV ct 1 8 [.int .i64 0] (some n) (some n) = some (.osl ct 0 n, .cells true true true 1 ((List.replicate n (0 : Int)).map I64)) := fun ct => by
    rw [mksV_s (sz := 1) (by omega) (by omega) (by rfl) (by rfl), flat_zeros]; rfl
  unfold Ans; rw [call_eq h]
  simp only [go_sem, Nat.reduceEqDiff, Nat.reduceAdd, c293, hv.len, hw.len, wrapN (n := n) (by omega), show (a.length : Int) + (b.length : Int) = ((a.length + b.length : Nat) : Int) from rfl, ← hn, hmk]
  generalize hq : D P L (.loop [0, 1, 5, 6] c293_1) _ = q
  obtain ⟨ex, s, rfl, tm, out, rfl, rfl, t5, hlen, hd, hval⟩ := of_key hq (a293_1 (P := P) (L := L) hv hw ha hb (by omega) (by omega) hn a.length) ⟨0, List.replicate n 0, by simp only [go_sem, Nat.reduceEqDiff, Nat.reduceAdd, compact0, refs_pure hv.pu, ren_pure _ hv.pu, refs_pure hw.pu, ren_pure _ hw.pu] <;> rfl, by omega, by simp, dg_zeros n, by rw [dv_zeros]; simp [dv], fun m _ => getD_zeros n m⟩
  have hfz := isI_vsl true out
  rw [hlen] at hfz
  obtain ⟨r, e1, hr, hsh⟩ := a300 h300 hfz (by omega)
  unfold Ans at e1
  refine ⟨r, trimL out, ?_, hr, hsh, trimL_dg hd, nz_trim out, by rw [trimL_dv]; exact hval⟩
  have hfr : ∀ hp : Hp, frzO 0 n (some (true, 1, out.map I64, hp)) = some (.vsl true n (out.map I64), hp) := fun hp => frzO_all true (by simp [hlen]) (by decide)
  simp only [go_sem, Nat.reduceAdd, compact0, t5, hfr, e1, hsh, hr.res]
theorem a278 (h : Has P L 278 c278) (h293 : Has P L 293 c293) (h294 : Has P L 294 c294) (h300 : Has P L 300 c300) {v w : AV} {n m : Int} (hv : IsR v n) (hw : IsR w m) (hn : n.natAbs < 1000000000 ^ 400000) (hm : m.natAbs < 1000000000 ^ 400000) :
    ∃ r, Ans P L 278 [v, w] r ∧ IsR r (n * m) := by
  obtain ⟨x, a, rfl, hx, ha, na, va⟩ := hv
  obtain ⟨y, b, rfl, hy, hb, nb, vb⟩ := hw
  have la := len_le ha na (by rw [va]; exact hn)
  have lb := len_le hb nb (by rw [vb]; exact hm)
  obtain ⟨z, out, e1, hz, hsh, hd, hnz, hval⟩ := a293 h293 h300 hx hy ha hb la lb
  have lo : out.length ≤ 1000000 := by
    refine len_le hd hnz ?_
    rw [hval]
    have h1 := dv_lt ha
    have h2 := dv_lt hb
    have h3 : dv a * dv b < 1000000000 ^ a.length * 1000000000 ^ b.length := Nat.mul_lt_mul'' h1 h2
    rw [← Nat.pow_add] at h3
    have hk : ∀ K, a.length + b.length ≤ K → dv a * dv b < 1000000000 ^ K := fun K h => Nat.lt_of_lt_of_le h3 (Nat.pow_le_pow_right (by decide) h)
    exact hk 1000000 (by omega)
  obtain ⟨r, e2, hr⟩ := a294 h294 h300 (!(decide (n < 0) == decide (m < 0))) hz hd lo
  have e : sgnV (!(decide (n < 0) == decide (m < 0))) (dv out) = n * m := by
    rw [hval, va, vb]
    have hnm : ((n.natAbs * m.natAbs : Nat) : Int) = (n.natAbs : Int) * m.natAbs := Int.natCast_mul _ _
    unfold sgnV
    by_cases h0 : n < 0 <;> by_cases h1 : m < 0 <;> simp only [h0, h1, decide_true, decide_false, beq_self_eq_true, Bool.not_true, Bool.false_eq_true, if_false, hnm]
    · rw [show (n.natAbs : Int) = -n by omega, show (m.natAbs : Int) = -m by omega, Int.neg_mul_neg]
    · rw [show (true == false) = false from rfl, Bool.not_false, if_pos rfl, show (n.natAbs : Int) = -n by omega, show (m.natAbs : Int) = m by omega, Int.neg_mul, Int.neg_neg]
    · rw [show (false == true) = false from rfl, Bool.not_false, if_pos rfl, show (n.natAbs : Int) = n by omega, show (m.natAbs : Int) = -m by omega, Int.mul_neg, Int.neg_neg]
    · rw [show (n.natAbs : Int) = n by omega, show (m.natAbs : Int) = m by omega]
  rw [e] at hr
  obtain ⟨w2, l2, rfl, hw2, hd2, hz2, hdv2⟩ := hr
  refine ⟨_, ?_, w2, l2, rfl, hw2, hd2, hz2, hdv2⟩
  unfold Ans at e1 e2 ⊢; rw [call_eq h]
  simp only [go_sem, Nat.reduceEqDiff, Nat.reduceAdd, c278, boxV_n, hx.pu, hx.frz, hx.one, hy.pu, hy.frz, hy.one, hz.frz, hz.shut, hw2.pu, hw2.one, off_ptr, Nat.zero_add, drop1, e1, eq_bb, eqB'_nt, e2, stC_2, shut_agg]
  rcases hw2 with ⟨rfl, _⟩ | ⟨e, rfl⟩ <;> rfl
end
end VE
end
