import Derived.Test.YteioemjpepbdgaaGreatDoorRefC
set_option linter.all false
section
set_option maxRecDepth 100000
namespace VE
open Go (IntKind)
section
variable {P : Prog} {L : Lib}
theorem a288_0 (h290 : Has P L 290 c290) {neg : Bool} {N : Nat} (hN : (natS N).length ≤ 9000000) :
    ∀ k s, (∃ (i m : Nat) (out : List Int), m = k ∧ out.length = i ∧ dg out ∧ dv out + 1000000000 ^ i * m = N ∧ (natS m).length + 9 * i ≤ 9000000 ∧
        ((i = 0 ∧ compact [0, 2, 3, 4] s = ⟨[(0, .str (natS m)), (2, .ptr 0 0), (3, .bool neg), (4, .nils)], [(0, .cells true true true 2 [.bool false, .nils])], 1, 0⟩) ∨
        (0 < i ∧ compact [0, 2, 3, 4] s = ⟨[(0, .str (natS m)), (2, .ptr 0 0), (3, .bool neg), (4, .osl 1 0 i)], [(1, .cells true true false 1 (out.map I64)), (0, .cells true true true 2 [.bool false, .nils])], 2, 0⟩))) →
      ∃ ex s', D P L (.loop [0, 2, 3, 4] c288_0) s = some (ex, s') ∧ ∃ tm i m out, ex = .exit 0 ∧ m < 1000000000 ∧ out.length = i ∧ dg out ∧ dv out + 1000000000 ^ i * m = N ∧ i < 1000000 ∧ tget tm 0 = .str (natS m) ∧ tget tm 2 = .ptr 0 0 ∧ tget tm 3 = .bool neg ∧
        ((i = 0 ∧ tget tm 4 = .nils ∧ s' = ⟨tm, [(0, .cells true true true 2 [.bool false, .nils])], 1, 0⟩) ∨ (0 < i ∧ tget tm 4 = .osl 1 0 i ∧ s' = ⟨tm, [(1, .cells true true false 1 (out.map I64)), (0, .cells true true true 2 [.bool false, .nils])], 2, 0⟩)) := by
  refine loop_can (I := fun k s => ∃ (i m : Nat) (out : List Int), m = k ∧ out.length = i ∧ dg out ∧ dv out + 1000000000 ^ i * m = N ∧ (natS m).length + 9 * i ≤ 9000000 ∧
        ((i = 0 ∧ s = ⟨[(0, .str (natS m)), (2, .ptr 0 0), (3, .bool neg), (4, .nils)], [(0, .cells true true true 2 [.bool false, .nils])], 1, 0⟩) ∨
        (0 < i ∧ s = ⟨[(0, .str (natS m)), (2, .ptr 0 0), (3, .bool neg), (4, .osl 1 0 i)], [(1, .cells true true false 1 (out.map I64)), (0, .cells true true true 2 [.bool false, .nils])], 2, 0⟩)))
    (Q := fun ex s' => ∃ tm i m out, ex = .exit 0 ∧ m < 1000000000 ∧ out.length = i ∧ dg out ∧ dv out + 1000000000 ^ i * m = N ∧ i < 1000000 ∧ tget tm 0 = .str (natS m) ∧ tget tm 2 = .ptr 0 0 ∧ tget tm 3 = .bool neg ∧
        ((i = 0 ∧ tget tm 4 = .nils ∧ s' = ⟨tm, [(0, .cells true true true 2 [.bool false, .nils])], 1, 0⟩) ∨ (0 < i ∧ tget tm 4 = .osl 1 0 i ∧ s' = ⟨tm, [(1, .cells true true false 1 (out.map I64)), (0, .cells true true true 2 [.bool false, .nils])], 2, 0⟩))) ?_
  rintro k s ⟨i, m, out, rfl, hlen, hd, hval, hl, hs⟩
  by_cases hm : 1000000000 ≤ m
  · left
    obtain ⟨q, hq⟩ : ∃ q, q = m / 1000000000 := ⟨_, rfl⟩
    obtain ⟨r, hr⟩ : ∃ r, r = m % 1000000000 := ⟨_, rfl⟩
    have hcut := natS_cut hm
    rw [← hq, ← hr] at hcut
    have hpl := padN_len 9 r
    have hqp := natS_pos q
    have hlm : (natS m).length = (natS q).length + 9 := by rw [hcut, List.length_append, hpl]
    have c1 : cutR (natS m) (some (natS q).length) (some (natS m).length) = some (.str (padN 9 r)) := by
      rw [cutR_ok (by omega) (Nat.le_refl _), List.take_length, hcut, List.drop_left]
    have c2 : cutR (natS m) (some 0) (some (natS q).length) = some (.str (natS q)) := by
      rw [cutR_ok (by omega) (by omega), List.drop_zero, hcut, List.take_left]
    have e1 := a290 h290 (s := padN 9 r) (v := r) (by omega) (by rw [valN_pad 9 r 0 (by omega)]; simp)
    unfold Ans at e1
    have hdg' : dg (out ++ [(r : Int)]) := dg_append.2 ⟨hd, dg_one.2 (by omega)⟩
    have hval' : dv (out ++ [(r : Int)]) + 1000000000 ^ (i + 1) * q = N := by
      rw [dv_append, hlen, ← hval, Nat.pow_succ]
      have e := Nat.mod_add_div m 1000000000
      rw [← hr, ← hq] at e
      rw [← e]
      simp only [dv, Int.toNat_natCast, Nat.mul_zero, Nat.add_zero, Nat.mul_add, Nat.mul_assoc]
      omega
    have hsub : ((natS m).length : Int) - 9 = ((natS q).length : Int) := by omega
    rcases hs with ⟨h0, rfl⟩ | ⟨h0, rfl⟩
    · subst h0
      have hnil : out = [] := List.eq_nil_of_length_eq_zero hlen
      subst hnil
      simp only [go_sem, Nat.reduceEqDiff, Nat.reduceAdd, Nat.reduceMul, Nat.reduceLT, Nat.reduceLeDiff, Nat.mul_one, c288_0, show (9 : Int) < ((natS m).length : Int) by omega, hsub, wrapN (n := (natS q).length) (by omega), cut_str, bound_n, bound_s, c1, c2, e1, app_nils]
      refine ⟨_, q, rfl, by omega, 1, q, [] ++ [(r : Int)], rfl, rfl, hdg', hval', by omega, .inr ⟨by omega, ?_⟩⟩
      simp only [go_sem, Nat.reduceEqDiff, Nat.reduceAdd, compact0]
      rfl
    · simp only [go_sem, Nat.reduceEqDiff, Nat.reduceAdd, Nat.reduceLeDiff, Nat.mul_one, c288_0, show (9 : Int) < ((natS m).length : Int) by omega, hsub, wrapN (n := (natS q).length) (by omega), cut_str, bound_n, bound_s, c1, e1]
      rw [app_own (ex := false) (pu := true) (cs := out.map I64) (by simp only [go_sem, Nat.reduceEqDiff]) (by rw [List.length_map, hlen, Nat.mul_one]) (by omega) (by omega) (by decide) (by simp only [go_sem])]
      simp only [go_sem, Nat.reduceEqDiff, Nat.reduceAdd, cut_str, bound_n, bound_s, hsub, wrapN (n := (natS q).length) (by omega), c2]
      refine ⟨_, q, rfl, by omega, i + 1, q, out ++ [(r : Int)], rfl, by simp [hlen], hdg', hval', by omega, .inr ⟨by omega, ?_⟩⟩
      rw [List.map_append]
      simp only [go_sem, Nat.reduceEqDiff, Nat.reduceAdd, compact0] <;> rfl
  · right
    have h9 : (natS m).length ≤ 9 := natS_len (k := 8) (by omega)
    have hp0 := natS_pos m
    rcases hs with ⟨h0, rfl⟩ | ⟨h0, rfl⟩
    · simp only [go_sem, c288_0, show ¬ (9 : Int) < ((natS m).length : Int) by omega]
      exact ⟨_, _, rfl, by simp, _, i, m, out, rfl, by omega, hlen, hd, hval, by omega, by simp only [go_sem, Nat.reduceEqDiff], by simp only [go_sem, Nat.reduceEqDiff], by simp only [go_sem, Nat.reduceEqDiff], .inl ⟨h0, by simp only [go_sem, Nat.reduceEqDiff], rfl⟩⟩
    · simp only [go_sem, c288_0, show ¬ (9 : Int) < ((natS m).length : Int) by omega]
      exact ⟨_, _, rfl, by simp, _, i, m, out, rfl, by omega, hlen, hd, hval, by omega, by simp only [go_sem, Nat.reduceEqDiff], by simp only [go_sem, Nat.reduceEqDiff], by simp only [go_sem, Nat.reduceEqDiff], .inr ⟨h0, by simp only [go_sem, Nat.reduceEqDiff], rfl⟩⟩
end
end VE
end
section
set_option maxRecDepth 100000
namespace VE
open Go (IntKind)
section
variable {P : Prog} {L : Lib}
theorem a288 (h : Ra P L) {n : Int} (hn : (natS n.natAbs).length ≤ 9000000) : ∃ r, Ans P L 288 [.str (intS n)] r ∧ IsR r n := by
  obtain ⟨u, hu⟩ : ∃ u, u = natS n.natAbs := ⟨_, rfl⟩
  obtain ⟨b, t, hb, hb1, hb2⟩ := natS_head n.natAbs
  have hs : intS n = (if n < 0 then [45] else []) ++ u := by rw [hu, sign_text]
  have hu0 : 0 < u.length := by rw [hu]; exact natS_pos _
  have hu1 : u[0] = b := by
    have : u = b :: t := by rw [hu, hb]
    simp [this]
  have key : ∀ (s : St), compact [0, 2, 3, 4] s = ⟨[(0, .str u), (2, .ptr 0 0), (3, .bool (decide (n < 0))), (4, .nils)], [(0, .cells true true true 2 [.bool false, .nils])], 1, 0⟩ →
      ∃ ex s', D P L (.loop [0, 2, 3, 4] c288_0) s = some (ex, s') ∧ ∃ tm i m out, ex = .exit 0 ∧ m < 1000000000 ∧ out.length = i ∧ dg out ∧ dv out + 1000000000 ^ i * m = n.natAbs ∧ i < 1000000 ∧ tget tm 0 = .str (natS m) ∧ tget tm 2 = .ptr 0 0 ∧ tget tm 3 = .bool (decide (n < 0)) ∧
        ((i = 0 ∧ tget tm 4 = .nils ∧ s' = ⟨tm, [(0, .cells true true true 2 [.bool false, .nils])], 1, 0⟩) ∨ (0 < i ∧ tget tm 4 = .osl 1 0 i ∧ s' = ⟨tm, [(1, .cells true true false 1 (out.map I64)), (0, .cells true true true 2 [.bool false, .nils])], 2, 0⟩)) := fun s hc =>
    a288_0 (P := P) (L := L) h.h290 (neg := decide (n < 0)) hn n.natAbs s ⟨0, n.natAbs, [], rfl, rfl, rfl, by simp [dv], by omega, .inl ⟨rfl, by rw [hc, hu]⟩⟩
  have fin : ∀ (i m : Nat) (out : List Int), m < 1000000000 → out.length = i → dg out → dv out + 1000000000 ^ i * m = n.natAbs → i < 1000000 → ∃ w l, callPure P L (D P L) 294 [.bool (decide (n < 0)), .vsl false (i + 1) ((out ++ [(m : Int)]).map I64)] = some (.agg [.bool (decide (n < 0)), w]) ∧ IsI w l ∧ dg l ∧ nz l ∧ dv l = n.natAbs := fun i m out h1 h2 h3 h4 h5 => by
    have hv := isI_vsl false (out ++ [(m : Int)])
    have hd : dg (out ++ [(m : Int)]) := dg_append.2 ⟨h3, dg_one.2 (by omega)⟩
    have hval : dv (out ++ [(m : Int)]) = n.natAbs := by rw [dv_append, h2]; simp [dv]; exact h4
    obtain ⟨r, e, hr⟩ := a294 h.h294 h.h300 (decide (n < 0)) hv hd (by simp; omega)
    have hsg : sgnV (decide (n < 0)) (dv (out ++ [(m : Int)])) = n := by
      rw [hval]; unfold sgnV
      by_cases h0 : n < 0
      · simp only [h0, decide_true, if_true]; omega
      · simp only [h0, decide_false, Bool.false_eq_true, if_false]; omega
    rw [hsg] at hr
    obtain ⟨w, l, rfl, hw, hd2, hz2, hv2⟩ := hr
    simp only [List.length_append, List.length_singleton, h2] at e
    exact ⟨w, l, e, hw, hd2, hz2, hv2⟩
  unfold Ans
  rw [hs]
  by_cases h0 : n < 0
  · rw [if_pos h0, call_eq h.h288]
    have hc0 : cutR (45 :: u) (some 1) (some (u.length + 1)) = some (.str u) := by rw [cutR_ok (s := 45 :: u) (l := 1) (h := u.length + 1) (by omega) (by simp)]; simp
    simp only [h0, decide_true] at key fin ⊢
    simp only [go_sem, Nat.reduceEqDiff, Nat.reduceAdd, c288, boxV_n, show (0 : Int) < ((u.length + 1 : Nat) : Int) by omega, List.cons_append, List.nil_append, ixs0, decide_true, cut_str, bound_n, bound_s, hc0]
    generalize hq : D P L (.loop [0, 2, 3, 4] c288_0) _ = q
    obtain ⟨ex, s, rfl, tm, i, m, out, rfl, hm, hlen, hd, hval, hi, t0, t2, t3, hcase⟩ := of_key hq key (by simp only [go_sem, Nat.reduceEqDiff, Nat.reduceAdd, compact0] <;> rfl)
    have e1 := a290 h.h290 (s := natS m) (v := m) (by have := natS_len (k := 8) (n := m) (by omega); omega) (valN_natS m)
    have hi' : i < 1000000 := hi
    obtain ⟨w, l, e2, hw, hd2, hz2, hv2⟩ := fin i m out hm hlen hd hval hi'
    refine ⟨_, ?_, w, l, rfl, hw, hd2, hz2, hv2⟩
    unfold Ans at e1
    rcases hcase with ⟨hi0, t4, rfl⟩ | ⟨hi0, t4, rfl⟩
    · subst hi0
      have hnil : out = [] := List.eq_nil_of_length_eq_zero hlen
      subst hnil
      have hfr : ∀ hp : Hp, frzO 0 1 (some (false, 1, [AV.int .i64 (m : Int)], hp)) = some (.vsl false 1 [AV.int .i64 (m : Int)], hp) := fun hp => rfl
      simp only [List.nil_append, List.map_cons, List.map_nil, Nat.zero_add] at e2
      simp only [go_sem, Nat.reduceEqDiff, Nat.reduceAdd, Nat.reduceMul, Nat.reduceLT, Nat.reduceLeDiff, Nat.mul_one, compact0, t0, t2, t3, t4, e1, app_nils, hfr, e2, shut_agg, hw.pu, hw.one, stC_2]
      rcases hw with ⟨rfl, _⟩ | ⟨e, rfl⟩ <;> simp only [h0, decide_true] <;> rfl
    · simp only [go_sem, Nat.reduceEqDiff, Nat.reduceAdd, Nat.reduceLeDiff, Nat.mul_one, compact0, t0, t2, t3, t4, e1]
      rw [app_own (ex := false) (pu := true) (cs := out.map I64) (by simp only [go_sem, Nat.reduceEqDiff]) (by rw [List.length_map, hlen, Nat.mul_one]) (by omega) (by omega) (by decide) (by simp only [go_sem])]
      have hfr : ∀ hp : Hp, frzO 0 (i + 1) (some (false, 1, out.map I64 ++ [AV.int .i64 (m : Int)], hp)) = some (.vsl false (i + 1) (out.map I64 ++ [AV.int .i64 (m : Int)]), hp) := fun hp => frzO_all false (by simp [hlen]) (by decide)
      simp only [List.map_append, List.map_cons, List.map_nil] at e2
      simp only [go_sem, Nat.reduceEqDiff, Nat.reduceAdd, hfr, e2, shut_agg, hw.pu, hw.one, stC_2, Bool.and_true]
      rcases hw with ⟨rfl, _⟩ | ⟨e, rfl⟩ <;> simp only [h0, decide_true] <;> rfl
  · rw [if_neg h0, call_eq h.h288, List.nil_append]
    simp only [h0, decide_false] at key fin ⊢
    simp only [go_sem, Nat.reduceEqDiff, Nat.reduceAdd, c288, boxV_n, show (0 : Int) < (u.length : Int) by omega, ixs_str hu0, hu1, show ¬ ((b : Nat) : Int) = 45 by omega]
    generalize hq : D P L (.loop [0, 2, 3, 4] c288_0) _ = q
    obtain ⟨ex, s, rfl, tm, i, m, out, rfl, hm, hlen, hd, hval, hi, t0, t2, t3, hcase⟩ := of_key hq key (by simp only [go_sem, Nat.reduceEqDiff, Nat.reduceAdd, compact0] <;> rfl)
    have e1 := a290 h.h290 (s := natS m) (v := m) (by have := natS_len (k := 8) (n := m) (by omega); omega) (valN_natS m)
    have hi' : i < 1000000 := hi
    obtain ⟨w, l, e2, hw, hd2, hz2, hv2⟩ := fin i m out hm hlen hd hval hi'
    refine ⟨_, ?_, w, l, rfl, hw, hd2, hz2, hv2⟩
    unfold Ans at e1
    rcases hcase with ⟨hi0, t4, rfl⟩ | ⟨hi0, t4, rfl⟩
    · subst hi0
      have hnil : out = [] := List.eq_nil_of_length_eq_zero hlen
      subst hnil
      have hfr : ∀ hp : Hp, frzO 0 1 (some (false, 1, [AV.int .i64 (m : Int)], hp)) = some (.vsl false 1 [AV.int .i64 (m : Int)], hp) := fun hp => rfl
      simp only [List.nil_append, List.map_cons, List.map_nil, Nat.zero_add] at e2
      simp only [go_sem, Nat.reduceEqDiff, Nat.reduceAdd, Nat.reduceMul, Nat.reduceLT, Nat.reduceLeDiff, Nat.mul_one, compact0, t0, t2, t3, t4, e1, app_nils, hfr, e2, shut_agg, hw.pu, hw.one, stC_2]
      rcases hw with ⟨rfl, _⟩ | ⟨e, rfl⟩ <;> simp only [h0, decide_false] <;> rfl
    · simp only [go_sem, Nat.reduceEqDiff, Nat.reduceAdd, Nat.reduceLeDiff, Nat.mul_one, compact0, t0, t2, t3, t4, e1]
      rw [app_own (ex := false) (pu := true) (cs := out.map I64) (by simp only [go_sem, Nat.reduceEqDiff]) (by rw [List.length_map, hlen, Nat.mul_one]) (by omega) (by omega) (by decide) (by simp only [go_sem])]
      have hfr : ∀ hp : Hp, frzO 0 (i + 1) (some (false, 1, out.map I64 ++ [AV.int .i64 (m : Int)], hp)) = some (.vsl false (i + 1) (out.map I64 ++ [AV.int .i64 (m : Int)]), hp) := fun hp => frzO_all false (by simp [hlen]) (by decide)
      simp only [List.map_append, List.map_cons, List.map_nil] at e2
      simp only [go_sem, Nat.reduceEqDiff, Nat.reduceAdd, hfr, e2, shut_agg, hw.pu, hw.one, stC_2, Bool.and_true]
      rcases hw with ⟨rfl, _⟩ | ⟨e, rfl⟩ <;> simp only [h0, decide_false] <;> rfl
end
end VE
end
section
set_option maxRecDepth 100000
namespace VE
open Go (IntKind)
theorem slashN_intS (n : Int) (r : List Nat) : slashN (intS n ++ r) = (intS n).length + slashN r := by
  rw [← sign_text]
  split
  · simp only [List.cons_append, List.nil_append, slashN, List.length_cons]
    rw [if_neg (by decide), slashN_digB r (digB_natS _)]
    omega
  · rw [List.nil_append]; exact slashN_digB r (digB_natS _)
theorem eqL_true : ∀ {a b : List Nat}, eqL a b = true → a = b
  | [], [], _ => rfl
  | [], _ :: _, h => by simp [eqL] at h
  | _ :: _, [], h => by simp [eqL] at h
  | x :: a, y :: b, h => by
    simp only [eqL, Bool.and_eq_true] at h
    rw [Nat.eq_of_beq_eq_true h.1, eqL_true h.2]
theorem TT_ne {n : Int} {d : Nat} (h : n ≠ 0) : eqL (TT n d) [48] = false := by
  cases hb : eqL (TT n d) [48] with
  | false => rfl
  | true =>
    have e := eqL_true hb
    unfold TT at e
    by_cases h0 : n < 0
    · rw [intS_neg h0] at e; simp at e
    · obtain ⟨m, rfl⟩ : ∃ m : Nat, n = m := ⟨n.toNat, by omega⟩
      rw [intS_nat] at e
      obtain ⟨b, r, hb', _, _⟩ := natS_head m
      rw [hb'] at e
      simp only [List.cons_append, List.cons.injEq, List.append_eq_nil_iff] at e
      have hv := valN_natS m
      rw [hb', e.1, e.2.1] at hv
      have : (some 0 : Option Nat) = some m := hv
      injection this with this
      omega
section
variable {P : Prog} {L : Lib}
theorem a281_1 (h : Ra P L) : ∃ r, Ans P L 281 [I64 1] r ∧ IsR r 1 := by
  obtain ⟨r, e, hr⟩ := a294 h.h294 h.h300 false (isI_vsl false [(1 : Int)]) (by decide) (by decide)
  have : sgnV false (dv [(1 : Int)]) = 1 := by decide
  rw [this] at hr
  obtain ⟨w, l, rfl, hw, hd, hz, hv⟩ := hr
  refine ⟨_, ?_, w, l, rfl, hw, hd, hz, hv⟩
  simp only [List.map_cons, List.map_nil, List.length_cons, List.length_nil, Nat.zero_add] at e
  have hfr : ∀ hp : Hp, frzO 0 1 (some (false, 1, [AV.int .i64 1], hp)) = some (.vsl false 1 [AV.int .i64 1], hp) := fun hp => rfl
  unfold Ans at e ⊢; rw [call_eq h.h281]
  simp only [go_sem, Nat.reduceEqDiff, Nat.reduceAdd, Nat.reduceMul, Nat.reduceLT, Nat.reduceLeDiff, Nat.mul_one, c281, boxV_n, Int.reduceLT, decide_false, D_loop, compact0, c281_0, Int.reduceEq, Bool.not_false, Bool.not_true, decide_true, bin_rem _ _ _ (show (1000000000 : Int) ≠ 0 by decide), bin_quo _ _ _ (show (1000000000 : Int) ≠ 0 by decide), show Int.tmod 1 1000000000 = 1 from rfl, show Int.tdiv 1 1000000000 = 0 from rfl, show IntKind.wrap .i64 0 = 0 from rfl, app_nils, hfr, e, hw.pu, hw.one, shut_agg, stC_2]
  rcases hw with ⟨rfl, _⟩ | ⟨e, rfl⟩ <;> rfl
theorem a274 (h : Ra P L) {n : Int} {d : Nat} (hn : (natS n.natAbs).length ≤ 8000000) (hd : (natS d).length ≤ 8000000) :
    ∃ x y, Ans P L 274 [.str (TT n d)] (.tup [x, y]) ∧ IsR x n ∧ IsR y d := by
  obtain ⟨x, e1, hx⟩ := a288 h (n := n) (by omega)
  have hli : (intS n).length ≤ (natS n.natAbs).length + 1 := by rw [← sign_text]; split <;> simp
  by_cases h1 : d = 1
  · subst h1
    obtain ⟨y, e2, hy⟩ := a281_1 h
    have hT : TT n 1 = intS n := by unfold TT; simp
    have hs := slashN_intS n []
    rw [List.append_nil] at hs
    have e3 := a272 h.h272 (s := intS n) (by omega)
    rw [hs] at e3
    refine ⟨x, y, ?_, hx, hy⟩
    obtain ⟨xw, xl, rfl, hxw, _, _, _⟩ := hx
    obtain ⟨yw, yl, rfl, hyw, _, _, _⟩ := hy
    rw [hT]
    unfold Ans at e1 e2 e3 ⊢; rw [call_eq h.h274]
    simp only [go_sem, Nat.reduceEqDiff, Nat.reduceAdd, c274, boxV_n, e3, slashN, Nat.add_zero, decide_true, e1, e2, shut_agg, hxw.pu, hxw.one, hyw.pu, hyw.one, stC_2]
    rcases hxw with ⟨rfl, _⟩ | ⟨e, rfl⟩ <;> rcases hyw with ⟨rfl, _⟩ | ⟨e', rfl⟩ <;> rfl
  · obtain ⟨y, e2, hy⟩ := a288 h (n := (d : Int)) (by simp; omega)
    rw [intS_nat] at e2
    obtain ⟨s, hs'⟩ : ∃ s, s = TT n d := ⟨_, rfl⟩
    have hT : s = intS n ++ 47 :: natS d := by rw [hs']; unfold TT; rw [if_neg h1]
    have hs : slashN s = (intS n).length := by rw [hT, slashN_intS]; rfl
    have hlen : s.length = (intS n).length + (natS d).length + 1 := by rw [hT]; simp; omega
    have hp := natS_pos d
    have e3 := a272 h.h272 (s := s) (by omega)
    rw [hs] at e3
    have c1 : cutR s (some 0) (some (intS n).length) = some (.str (intS n)) := by
      rw [cutR_ok (by omega) (by omega), List.drop_zero, hT, List.take_left]
    have c2 : cutR s (some ((intS n).length + 1)) (some s.length) = some (.str (natS d)) := by
      rw [cutR_ok (by omega) (Nat.le_refl _), List.take_length, hT, show intS n ++ 47 :: natS d = (intS n ++ [47]) ++ natS d by simp, show (intS n).length + 1 = (intS n ++ [47]).length by simp, List.drop_left]
    refine ⟨x, y, ?_, hx, hy⟩
    obtain ⟨xw, xl, rfl, hxw, _, _, _⟩ := hx
    obtain ⟨yw, yl, rfl, hyw, _, _, _⟩ := hy
    rw [← hs']
    unfold Ans at e1 e2 e3 ⊢; rw [call_eq h.h274]
    simp only [go_sem, Nat.reduceEqDiff, Nat.reduceAdd, c274, boxV_n, e3, show ¬ ((intS n).length : Int) = (s.length : Int) by omega, cut_str, bound_n, bound_s, c1, wrapN (n := (intS n).length + 1) (by omega), show ((intS n).length : Int) + 1 = (((intS n).length + 1 : Nat) : Int) from rfl, c2, e1, e2, shut_agg, hxw.pu, hxw.one, hyw.pu, hyw.one, stC_2]
    rcases hxw with ⟨rfl, _⟩ | ⟨e, rfl⟩ <;> rcases hyw with ⟨rfl, _⟩ | ⟨e', rfl⟩ <;> rfl
end
end VE
end
section
set_option maxRecDepth 100000
namespace VE
open Go (IntKind)
theorem TT_neg {n : Int} {d : Nat} (h : n < 0) : TT n d = 45 :: TT (-n) d := by
  have e : intS (-n) = natS n.natAbs := by
    rw [← sign_text, if_neg (show ¬ -n < 0 by omega), List.nil_append, show (-n).natAbs = n.natAbs by omega]
  unfold TT
  rw [intS_neg h, e]
  rfl
theorem TT_head {n : Int} {d : Nat} (h : ¬ n < 0) : ∃ b u, TT n d = b :: u ∧ 48 ≤ b := by
  obtain ⟨b, r, hb, h1, _⟩ := natS_head n.natAbs
  refine ⟨b, r ++ (if d = 1 then [] else 47 :: natS d), ?_, h1⟩
  unfold TT
  rw [← sign_text, if_neg h, List.nil_append, hb]
  rfl
theorem TT_len' (n : Int) (d : Nat) : (TT n d).length ≤ (natS n.natAbs).length + (natS d).length + 2 := by
  unfold TT
  rw [← sign_text, List.length_append, List.length_append]
  have h1 : (if n < 0 then [45] else ([] : List Nat)).length ≤ 1 := by split <;> simp
  have h2 : (if d = 1 then ([] : List Nat) else 47 :: natS d).length ≤ (natS d).length + 1 := by split <;> simp
  omega
theorem TT_len {n : Int} {d : Nat} (hn : (natS n.natAbs).length ≤ 8000000) (hd : (natS d).length ≤ 8000000) : (TT n d).length ≤ 16000002 := by
  have := TT_len' n d
  omega
theorem ld1_2v (a b : AV) (r : List AV) : ld1 2 true (a :: b :: r) = some (.agg [a, b]) := rfl
def Fin (n : Int) (d : Nat) : Prop := (n = 0 → d = 1) ∧ 0 < d ∧ (natS n.natAbs).length ≤ 100000 ∧ (natS d).length ≤ 100000
section
variable {P : Prog} {L : Lib}
theorem a262 (h : Ra P L) {n : Int} {d : Nat} (hf : Fin n d) : Ans P L 262 [.str (TT n d)] (I64 (sgn n)) := by
  obtain ⟨f1, f2, f3, f4⟩ := hf
  have hl := TT_len (n := n) (d := d) (by omega) (by omega)
  unfold Ans; rw [call_eq h.h262]
  by_cases h0 : n < 0
  · have hne := TT_ne (n := n) (d := d) (by omega)
    rw [TT_neg h0] at hne ⊢
    simp only [go_sem, Nat.reduceEqDiff, c262, str_eql, hne, show (0 : Int) < (((TT (-n) d).length + 1 : Nat) : Int) by omega, ixs0, decide_true]
    unfold sgn; rw [if_pos h0]
  · by_cases h1 : n = 0
    · subst h1
      have := f1 rfl
      subst this
      rw [show TT 0 1 = [48] by decide]
      simp only [go_sem, Nat.reduceEqDiff, c262, str_eql, show eqL [48] [48] = true from rfl]
      rfl
    · have hne := TT_ne (n := n) (d := d) h1
      obtain ⟨b, u, hb, hb1⟩ := TT_head (d := d) h0
      rw [hb] at hne ⊢
      simp only [go_sem, Nat.reduceEqDiff, c262, str_eql, hne, show (0 : Int) < ((u.length + 1 : Nat) : Int) by omega, show ixsOp 0 (.str (b :: u)) = some (.int .u8 (b : Nat)) from rfl, show ¬ ((b : Nat) : Int) = 45 by omega]
      unfold sgn; rw [if_neg h0, if_neg h1]
theorem a268 (h : Ra P L) {n : Int} {d : Nat} (hf : Fin n d) : Ans P L 268 [.str (TT n d)] (.str (TT (-n) d)) := by
  have e := a262 h hf
  obtain ⟨f1, f2, f3, f4⟩ := hf
  have hl := TT_len (n := n) (d := d) (by omega) (by omega)
  unfold Ans at e ⊢; rw [call_eq h.h268]
  by_cases h0 : n < 0
  · have es : sgn n = -1 := by unfold sgn; rw [if_pos h0]
    rw [es, TT_neg h0] at e
    rw [TT_neg h0]
    have hc : cutR (45 :: TT (-n) d) (some 1) (some ((TT (-n) d).length + 1)) = some (.str (TT (-n) d)) := by rw [cutR_ok (s := 45 :: TT (-n) d) (l := 1) (h := (TT (-n) d).length + 1) (by omega) (by simp)]; simp
    simp only [go_sem, Nat.reduceEqDiff, c268, e, show (-1 : Int) < 0 by decide, cut_str, bound_n, bound_s, hc]
  · by_cases h1 : n = 0
    · subst h1
      have es : sgn 0 = 0 := rfl
      rw [es] at e
      simp only [go_sem, Nat.reduceEqDiff, c268, e, show ¬ (0 : Int) < 0 by decide, decide_true, Int.neg_zero]
    · have es : sgn n = 1 := by unfold sgn; rw [if_neg h0, if_neg h1]
      rw [es] at e
      have : TT (-n) d = 45 :: TT n d := by rw [TT_neg (by omega), Int.neg_neg]
      rw [this]
      simp only [go_sem, Nat.reduceEqDiff, c268, e, show ¬ (1 : Int) < 0 by decide, show ¬ (1 : Int) = 0 by decide, str_add (a := [45]) (b := TT n d) (by simp; omega), List.cons_append, List.nil_append]
theorem quick_t (n : Int) (d : Nat) : quickV true n d = .tup [I64 n, I64 d, .bool true] := rfl
theorem prod9 {a b : Int} (ha : a.natAbs < 1000000000) (hb : b.natAbs < 1000000000) : (a * b).natAbs < 1000000000000000000 := by
  rw [Int.natAbs_mul]
  exact Nat.lt_of_lt_of_le (Nat.mul_lt_mul'' ha hb) (by decide)
theorem mul_pow_lt (K M J : Nat) {x y : Nat} (hx : x < 1000000000 ^ K) (hy : y < 1000000000 ^ M) (h : K + M ≤ J) : x * y < 1000000000 ^ J := by
  have h1 := Nat.mul_lt_mul'' hx hy
  rw [← Nat.pow_add] at h1
  exact Nat.lt_of_lt_of_le h1 (pow_mono h)
theorem pow_succ_le (K J : Nat) (h : K + 1 ≤ J) : 1000000000 ^ K * 1000000000 ≤ 1000000000 ^ J := by
  rw [← Nat.pow_succ]; exact pow_mono h
theorem digs_lt {n k : Nat} (h : (natS n).length ≤ 9 * k) : n < 1000000000 ^ k := by
  have := natS_lt n
  refine Nat.lt_of_lt_of_le this ?_
  rw [show (1000000000 : Nat) = 10 ^ 9 by decide, ← Nat.pow_mul]
  exact Nat.pow_le_pow_right (by decide) h
theorem a267 (h : Ra P L) {n m : Int} {d e : Nat} (hf : Fin n d) (hg : Fin m e) (hde : d * e < 1000000000) : Ans P L 267 [.str (TT n d), .str (TT m e)] (.str (ratT (n * m) ((d : Int) * e))) := by
  obtain ⟨f1, f2, f3, f4⟩ := hf
  obtain ⟨g1, g2, g3, g4⟩ := hg
  have l1 : (TT n d).length ≤ 1000000 := by
    have := TT_len' n d
    omega
  have l2 : (TT m e).length ≤ 1000000 := by
    have := TT_len' m e
    omega
  obtain ⟨q1, e1, b1⟩ := a276 h.h276 h.h272 h.h290 (n := n) (d := d) l1
  obtain ⟨q2, e2, b2⟩ := a276 h.h276 h.h272 h.h290 (n := m) (d := e) l2
  have hp : (0 : Int) < (d : Int) * e := Int.mul_pos (by omega) (by omega)
  have hpe : (d : Int) * e = ((d * e : Nat) : Int) := (Int.natCast_mul _ _).symm
  by_cases hq : (q1 = true ∧ q2 = true)
  · obtain ⟨rfl, rfl⟩ := hq
    obtain ⟨b11, b12⟩ := b1 rfl
    obtain ⟨b21, b22⟩ := b2 rfl
    have p1 := prod9 b11 b21
    have e3 := a277 h.h277 h.h291 h.h292 (a := n * m) (b := (d : Int) * e) (by omega) (by omega)
    rw [quick_t] at e1 e2
    unfold Ans at e1 e2 e3 ⊢; rw [call_eq h.h267]
    simp only [go_sem, Nat.reduceEqDiff, c267, e1, e2, wrap64 (n := n * m) (by omega) (by omega), wrap64 (n := (d : Int) * (e : Int)) (by omega) (by omega), e3]
  · have hq' : ∃ n1 d1 n2 d2, callPure P L (D P L) 276 [.str (TT n d)] = some (.tup [I64 n1, I64 d1, .bool q1]) ∧ callPure P L (D P L) 276 [.str (TT m e)] = some (.tup [I64 n2, I64 d2, .bool q2]) := by
      unfold Ans at e1 e2
      cases q1 <;> cases q2 <;> exact ⟨_, _, _, _, e1, e2⟩
    obtain ⟨n1, d1, n2, d2, e1, e2⟩ := hq'
    obtain ⟨x, y, e3, hx, hy⟩ := a274 h (n := n) (d := d) (by omega) (by omega)
    obtain ⟨z, w, e4, hz, hw⟩ := a274 h (n := m) (d := e) (by omega) (by omega)
    have bn : n.natAbs < 1000000000 ^ 100000 := digs_lt (k := 100000) (by omega)
    have bm : m.natAbs < 1000000000 ^ 100000 := digs_lt (k := 100000) (by omega)
    have mono1 : 1000000000 ^ 100000 ≤ 1000000000 ^ 400000 := pow_mono (k := 100000) (m := 400000) (by decide)
    obtain ⟨r, e5, hr⟩ := a278 h.h278 h.h293 h.h294 h.h300 hx hz (Nat.lt_of_lt_of_le bn mono1) (Nat.lt_of_lt_of_le bm mono1)
    have bd : (d : Int).natAbs < 1000000000 ^ 100000 := digs_lt (k := 100000) (by simp; omega)
    have be : (e : Int).natAbs < 1000000000 ^ 100000 := digs_lt (k := 100000) (by simp; omega)
    obtain ⟨s, e6, hs⟩ := a278 h.h278 h.h293 h.h294 h.h300 hy hw (Nat.lt_of_lt_of_le bd mono1) (Nat.lt_of_lt_of_le be mono1)
    have bnm : (n * m).natAbs < 1000000000 ^ 400000 := by
      rw [Int.natAbs_mul]
      exact mul_pow_lt 100000 100000 400000 bn bm (by decide)
    have e7 := a280 h hr hs bnm (by omega)
    obtain ⟨xw, xl, rfl, hxw, _, _, _⟩ := hx
    obtain ⟨yw, yl, rfl, hyw, _, _, _⟩ := hy
    obtain ⟨zw, zl, rfl, hzw, _, _, _⟩ := hz
    obtain ⟨ww, wl, rfl, hww, _, _, _⟩ := hw
    obtain ⟨rw', rl, rfl, hrw, _, _, _⟩ := hr
    obtain ⟨sw, sl, rfl, hsw, _, _, _⟩ := hs
    have hb : ¬ (q1 = true ∧ q2 = true) := hq
    unfold Ans at e3 e4 e5 e6 e7 ⊢; rw [call_eq h.h267]
    cases q1 with
    | false =>
      simp only [go_sem, Nat.reduceEqDiff, Nat.reduceAdd, c267, boxV_n, e1, e2, e3, e4, hxw.pu, hxw.frz, hxw.one, hyw.pu, hyw.frz, hyw.one, hzw.pu, hzw.frz, hzw.one, hww.pu, hww.frz, hww.one, hrw.frz, hsw.frz, frz_agg0, shut_agg, shut1_agg, stC_2, ld1_2v, e5, e6, e7]
    | true =>
      cases q2 with
      | true => exact absurd ⟨rfl, rfl⟩ hb
      | false =>
        simp only [go_sem, Nat.reduceEqDiff, Nat.reduceAdd, c267, boxV_n, e1, e2, e3, e4, hxw.pu, hxw.frz, hxw.one, hyw.pu, hyw.frz, hyw.one, hzw.pu, hzw.frz, hzw.one, hww.pu, hww.frz, hww.one, hrw.frz, hsw.frz, frz_agg0, shut_agg, shut1_agg, stC_2, ld1_2v, e5, e6, e7]
theorem a264 (h : Ra P L) {n m : Int} {d e : Nat} (hf : Fin n d) (hg : Fin m e) (hde : d * e < 1000000000) : Ans P L 264 [.str (TT n d), .str (TT m e)] (.str (ratT (n * e + m * d) ((d : Int) * e))) := by
  obtain ⟨f1, f2, f3, f4⟩ := hf
  obtain ⟨g1, g2, g3, g4⟩ := hg
  have l1 : (TT n d).length ≤ 1000000 := by
    have := TT_len' n d
    omega
  have l2 : (TT m e).length ≤ 1000000 := by
    have := TT_len' m e
    omega
  obtain ⟨q1, e1, b1⟩ := a276 h.h276 h.h272 h.h290 (n := n) (d := d) l1
  obtain ⟨q2, e2, b2⟩ := a276 h.h276 h.h272 h.h290 (n := m) (d := e) l2
  have hp : (0 : Int) < (d : Int) * e := Int.mul_pos (by omega) (by omega)
  have hpe : (d : Int) * e = ((d * e : Nat) : Int) := (Int.natCast_mul _ _).symm
  by_cases hq : (q1 = true ∧ q2 = true)
  · obtain ⟨rfl, rfl⟩ := hq
    obtain ⟨b11, b12⟩ := b1 rfl
    obtain ⟨b21, b22⟩ := b2 rfl
    have p1 := prod9 b11 (b := (e : Int)) (by omega)
    have p2 := prod9 b21 (b := (d : Int)) (by omega)
    have e3 := a277 h.h277 h.h291 h.h292 (a := n * e + m * d) (b := (d : Int) * e) (by omega) (by omega)
    rw [quick_t] at e1 e2
    unfold Ans at e1 e2 e3 ⊢; rw [call_eq h.h264]
    simp only [go_sem, Nat.reduceEqDiff, c264, e1, e2, wrap64 (n := n * (e : Int)) (by omega) (by omega), wrap64 (n := m * (d : Int)) (by omega) (by omega), wrap64 (n := n * (e : Int) + m * (d : Int)) (by omega) (by omega), wrap64 (n := (d : Int) * (e : Int)) (by omega) (by omega), e3]
  · have hq' : ∃ n1 d1 n2 d2, callPure P L (D P L) 276 [.str (TT n d)] = some (.tup [I64 n1, I64 d1, .bool q1]) ∧ callPure P L (D P L) 276 [.str (TT m e)] = some (.tup [I64 n2, I64 d2, .bool q2]) := by
      unfold Ans at e1 e2
      cases q1 <;> cases q2 <;> exact ⟨_, _, _, _, e1, e2⟩
    obtain ⟨n1, d1, n2, d2, e1, e2⟩ := hq'
    obtain ⟨x, y, e3, hx, hy⟩ := a274 h (n := n) (d := d) (by omega) (by omega)
    obtain ⟨z, w, e4, hz, hw⟩ := a274 h (n := m) (d := e) (by omega) (by omega)
    have bn : n.natAbs < 1000000000 ^ 100000 := digs_lt (k := 100000) (by omega)
    have bm : m.natAbs < 1000000000 ^ 100000 := digs_lt (k := 100000) (by omega)
    have bd : (d : Int).natAbs < 1000000000 ^ 100000 := digs_lt (k := 100000) (by simp; omega)
    have be : (e : Int).natAbs < 1000000000 ^ 100000 := digs_lt (k := 100000) (by simp; omega)
    have mono1 : 1000000000 ^ 100000 ≤ 1000000000 ^ 400000 := pow_mono (k := 100000) (m := 400000) (by decide)
    obtain ⟨r, e5, hr⟩ := a278 h.h278 h.h293 h.h294 h.h300 hx hw (Nat.lt_of_lt_of_le bn mono1) (Nat.lt_of_lt_of_le be mono1)
    obtain ⟨r2, e52, hr2⟩ := a278 h.h278 h.h293 h.h294 h.h300 hz hy (Nat.lt_of_lt_of_le bm mono1) (Nat.lt_of_lt_of_le bd mono1)
    obtain ⟨s, e6, hs⟩ := a278 h.h278 h.h293 h.h294 h.h300 hy hw (Nat.lt_of_lt_of_le bd mono1) (Nat.lt_of_lt_of_le be mono1)
    have pr : ∀ {a b : Int}, a.natAbs < 1000000000 ^ 100000 → b.natAbs < 1000000000 ^ 100000 → (a * b).natAbs < 1000000000 ^ 200000 := fun {a b} ha hb => by
      rw [Int.natAbs_mul]
      exact mul_pow_lt 100000 100000 200000 ha hb (by decide)
    have b1' := pr bn be
    have b2' := pr bm bd
    have mono2 : 1000000000 ^ 200000 ≤ 1000000000 ^ 400000 := pow_mono (k := 200000) (m := 400000) (by decide)
    have bsum : (n * (e : Int) + m * (d : Int)).natAbs < 1000000000 ^ 400000 := by
      have h3 : 1000000000 ^ 200000 * 1000000000 ≤ 1000000000 ^ 400000 := pow_succ_le 200000 400000 (by decide)
      have h4 := Int.natAbs_add_le (n * (e : Int)) (m * (d : Int))
      generalize 1000000000 ^ 200000 = X at *
      generalize 1000000000 ^ 400000 = Y at *
      omega
    obtain ⟨t, e8, ht⟩ := a279 h.h279 h.h295 h.h296 h.h297 h.h302 h.h294 h.h300 hr hr2 (Nat.lt_of_lt_of_le b1' mono2) (Nat.lt_of_lt_of_le b2' mono2)
    have e7 := a280 h ht hs bsum (by omega)
    obtain ⟨xw, xl, rfl, hxw, _, _, _⟩ := hx
    obtain ⟨yw, yl, rfl, hyw, _, _, _⟩ := hy
    obtain ⟨zw, zl, rfl, hzw, _, _, _⟩ := hz
    obtain ⟨ww, wl, rfl, hww, _, _, _⟩ := hw
    obtain ⟨rw', rl, rfl, hrw, _, _, _⟩ := hr
    obtain ⟨rw2, rl2, rfl, hrw2, _, _, _⟩ := hr2
    obtain ⟨tw, tl, rfl, htw, _, _, _⟩ := ht
    obtain ⟨sw, sl, rfl, hsw, _, _, _⟩ := hs
    have hb : ¬ (q1 = true ∧ q2 = true) := hq
    unfold Ans at e3 e4 e5 e52 e6 e7 e8 ⊢; rw [call_eq h.h264]
    cases q1 with
    | false =>
      simp only [go_sem, Nat.reduceEqDiff, Nat.reduceAdd, c264, boxV_n, e1, e2, e3, e4, hxw.pu, hxw.frz, hxw.one, hyw.pu, hyw.frz, hyw.one, hzw.pu, hzw.frz, hzw.one, hww.pu, hww.frz, hww.one, hrw.frz, hrw2.frz, htw.frz, hsw.frz, frz_agg0, shut_agg, shut1_agg, stC_2, ld1_2v, e5, e52, e8, e6, e7]
    | true =>
      cases q2 with
      | true => exact absurd ⟨rfl, rfl⟩ hb
      | false =>
        simp only [go_sem, Nat.reduceEqDiff, Nat.reduceAdd, c264, boxV_n, e1, e2, e3, e4, hxw.pu, hxw.frz, hxw.one, hyw.pu, hyw.frz, hyw.one, hzw.pu, hzw.frz, hzw.one, hww.pu, hww.frz, hww.one, hrw.frz, hrw2.frz, htw.frz, hsw.frz, frz_agg0, shut_agg, shut1_agg, stC_2, ld1_2v, e5, e52, e8, e6, e7]
theorem a271 (h : Ra P L) {n m : Int} {d e : Nat} (hf : Fin n d) (hg : Fin m e) (hde : d * e < 1000000000) : Ans P L 271 [.str (TT n d), .str (TT m e)] (.str (ratT (n * e - m * d) ((d : Int) * e))) := by
  have e1 := a268 h hg
  have hg' : Fin (-m) e := ⟨fun h => hg.1 (by omega), hg.2.1, by rw [Int.natAbs_neg]; exact hg.2.2.1, hg.2.2.2⟩
  have e2 := a264 h hf hg' hde
  rw [Int.neg_mul] at e2
  rw [Int.sub_eq_add_neg]
  unfold Ans at e1 e2 ⊢; rw [call_eq h.h271]
  simp only [go_sem, Nat.reduceEqDiff, c271, e1, e2]
end
end VE
end
