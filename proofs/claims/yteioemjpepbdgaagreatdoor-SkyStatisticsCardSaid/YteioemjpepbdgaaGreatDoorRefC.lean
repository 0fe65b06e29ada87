import Derived.Test.YteioemjpepbdgaaGreatDoorRefB
set_option linter.all false
section
set_option maxRecDepth 100000
namespace VE
open Go (IntKind)
theorem set_rep (i : Nat) (q : List Int) (x : Int) : (List.replicate (i + 1) (0 : Int) ++ q).set i x = List.replicate i 0 ++ x :: q := by
  rw [List.replicate_succ', List.append_assoc, List.set_append_right _ _ (by simp)]
  simp
section
variable {P : Prog} {L : Lib}
theorem a299_0 {v : AV} {a : List Int} (hv : IsI v a) (ha : dg a) (la : a.length ≤ 1000000) {d : Nat} (h0 : 0 < d) (h1 : d < 1000000000) :
    ∀ k s, (∃ (j r : Nat) (q : List Int), compact [0, 1, 6, 7, 8] s = ⟨[(0, v), (1, I64 d), (6, .osl 0 0 a.length), (7, I64 r), (8, I64 ((j : Int) - 1))], [(0, .cells true true true 1 ((List.replicate j (0 : Int) ++ q).map I64))], 1, 0⟩ ∧ j = k ∧ j + q.length = a.length ∧ r < d ∧ dg q ∧ dv (a.drop j) = d * dv q + r) →
      ∃ ex s', D P L (.loop [0, 1, 6, 7, 8] c299_0) s = some (ex, s') ∧ ∃ tm r q, s' = ⟨tm, [(0, .cells true true true 1 (q.map I64))], 1, 0⟩ ∧ ex = .exit 0 ∧ tget tm 6 = .osl 0 0 a.length ∧ tget tm 7 = I64 (r : Nat) ∧ q.length = a.length ∧ r < d ∧ dg q ∧ dv a = d * dv q + r := by
  refine loop_can (I := fun k s => ∃ (j r : Nat) (q : List Int), s = ⟨[(0, v), (1, I64 d), (6, .osl 0 0 a.length), (7, I64 r), (8, I64 ((j : Int) - 1))], [(0, .cells true true true 1 ((List.replicate j (0 : Int) ++ q).map I64))], 1, 0⟩ ∧ j = k ∧ j + q.length = a.length ∧ r < d ∧ dg q ∧ dv (a.drop j) = d * dv q + r)
    (Q := fun ex s' => ∃ tm r q, s' = ⟨tm, [(0, .cells true true true 1 (q.map I64))], 1, 0⟩ ∧ ex = .exit 0 ∧ tget tm 6 = .osl 0 0 a.length ∧ tget tm 7 = I64 (r : Nat) ∧ q.length = a.length ∧ r < d ∧ dg q ∧ dv a = d * dv q + r) ?_
  rintro k s ⟨j, r, q, rfl, rfl, hl, hr, hd, hval⟩
  cases j with
  | zero =>
    right
    simp only [go_sem, Nat.reduceEqDiff, c299_0, show ¬ (0 : Int) ≤ ((0 : Nat) : Int) - 1 by omega]
    exact ⟨_, _, rfl, by simp, _, r, q, rfl, rfl, by simp only [go_sem, Nat.reduceEqDiff], by simp only [go_sem, Nat.reduceEqDiff], by omega, hr, hd, hval⟩
  | succ i =>
    left
    have hi : i < a.length := by omega
    obtain ⟨x, hx⟩ : ∃ x, x = a.getD i 0 := ⟨_, rfl⟩
    have e1 := ixa_D hv hi
    have gx := dg_get ha i
    rw [← hx] at e1 gx
    obtain ⟨t, ht⟩ : ∃ t : Nat, t = r * 1000000000 + x.toNat := ⟨_, rfl⟩
    have ht' : (r : Int) * 1000000000 + x = (t : Int) := by omega
    have htb : t < d * 1000000000 := by
      have : (r + 1) * 1000000000 ≤ d * 1000000000 := Nat.mul_le_mul_right _ hr
      rw [Nat.add_mul] at this
      omega
    have hq1 : t / d < 1000000000 := (Nat.div_lt_iff_lt_mul h0).2 (by rw [Nat.mul_comm]; exact htb)
    have hr1 : t % d < d := Nat.mod_lt _ h0
    have e2 : ((t : Nat) : Int).tdiv d = ((t / d : Nat) : Int) := by rw [Int.tdiv_eq_ediv_of_nonneg (by omega)]; rfl
    have e3 : ((t : Nat) : Int).tmod d = ((t % d : Nat) : Int) := by rw [Int.tmod_eq_emod_of_nonneg (by omega)]; rfl
    have hlr : (List.replicate (i + 1) (0 : Int) ++ q).length = a.length := by simp; omega
    have hst := fun (hp : Hp) (ct id : Nat) (ex : Bool) => stD (hp := hp) (ct := ct) (id := id) (ex := ex) (v := ((t / d : Nat) : Int)) (l := List.replicate (i + 1) (0 : Int) ++ q) (o := i) (by rw [hlr]; exact hi)
    simp only [set_rep] at hst
    simp only [go_sem, Nat.reduceEqDiff, Nat.mul_one, c299_0, show ((i + 1 : Nat) : Int) - 1 = (i : Int) by omega, show (0 : Int) ≤ (i : Int) by omega, wrap64 (n := (r : Int) * 1000000000) (by omega) (by omega), e1, ht', wrapN (n := t) (by omega), bin_quo _ _ _ (show (d : Int) ≠ 0 by omega), bin_rem _ _ _ (show (d : Int) ≠ 0 by omega), e2, e3, wrapN (n := t / d) (by omega), ixa_osl 0 0 (show i < a.length from hi), Nat.zero_add, hst]
    refine ⟨_, i, rfl, by omega, i, t % d, ((t / d : Nat) : Int) :: q, ?_, rfl, by simp; omega, hr1, (dg_append (a := [((t / d : Nat) : Int)]) (b := q)).2 ⟨dg_one.2 ⟨Int.natCast_nonneg _, Int.ofNat_lt.2 hq1⟩, hd⟩, ?_⟩
    · rw [wrap64 (by omega) (by omega)]
      simp only [go_sem, Nat.reduceEqDiff, Nat.reduceAdd, compact0, refs_pure hv.pu, ren_pure _ hv.pu] <;> rfl
    · have hdr : a.drop i = x :: a.drop (i + 1) := by
        rw [List.drop_eq_getElem_cons hi, hx]
        simp [List.getD_eq_getElem?_getD, List.getElem?_eq_getElem hi]
      rw [hdr]
      simp only [dv, hval, Int.toNat_natCast]
      have e := Nat.div_add_mod t d
      rw [Nat.mul_add, Nat.mul_add d, Nat.mul_left_comm 1000000000 d]
      omega
theorem a299 (h : Has P L 299 c299) (h300 : Has P L 300 c300) {v : AV} {a : List Int} (hv : IsI v a) (ha : dg a) (la : a.length ≤ 1000000) {d : Nat} (h0 : 0 < d) (h1 : d < 1000000000) :
    ∃ r q, Ans P L 299 [v, I64 d] (.tup [r, I64 (dv a % d : Nat)]) ∧ IsI r q ∧ shut r = r ∧ shut1 r = r ∧ dg q ∧ nz q ∧ dv q = dv a / d := by
  obtain ⟨n, hn⟩ : ∃ n, n = a.length := ⟨_, rfl⟩
  have hmk : ∀ ct : Nat, mksV ct 1 8 [.int .i64 0] (some n) (some n) = some (.osl ct 0 n, .cells true true true 1 ((List.replicate n (0 : Int)).map I64)) := fun ct => by
    rw [mksV_s (sz := 1) (by omega) (by omega) (by rfl) (by rfl), flat_zeros]; rfl
  unfold Ans; rw [call_eq h]
  simp only [go_sem, Nat.reduceEqDiff, Nat.reduceAdd, c299, hv.len, ← hn, hmk]
  generalize hq : D P L (.loop [0, 1, 6, 7, 8] c299_0) _ = q
  obtain ⟨ex, s, rfl, tm, r, qs, rfl, rfl, t6, t7, hlen, hr, hd, hval⟩ := of_key hq (a299_0 (P := P) (L := L) hv ha la h0 h1 a.length) ⟨a.length, 0, [], by
    rw [wrap64 (by omega) (by omega), List.append_nil, ← hn]
    simp only [go_sem, Nat.reduceEqDiff, Nat.reduceAdd, compact0, refs_pure hv.pu, ren_pure _ hv.pu] <;> rfl, rfl, by simp, h0, rfl, by rw [List.drop_eq_nil_of_le (Nat.le_refl _)]; simp [dv]⟩
  have hfz := isI_vsl true qs
  rw [hlen] at hfz
  obtain ⟨w, e1, hw, hsh⟩ := a300 h300 hfz (by omega)
  unfold Ans at e1
  have hdm : dv a / d = dv qs ∧ dv a % d = r := (Nat.div_mod_unique h0).2 ⟨by omega, hr⟩
  refine ⟨w, trimL qs, ?_, hw, hsh, hw.shut1, trimL_dg hd, nz_trim qs, by rw [trimL_dv, hdm.1]⟩
  have hfr : ∀ hp : Hp, frzO 0 a.length (some (true, 1, qs.map I64, hp)) = some (.vsl true a.length (qs.map I64), hp) := fun hp => frzO_all true (by simp [hlen]) (by decide)
  rw [hdm.2]
  simp only [go_sem, Nat.reduceEqDiff, Nat.reduceAdd, compact0, t6, t7, hfr, e1, hsh]
  rcases hw with ⟨rfl, _⟩ | ⟨e, rfl⟩ <;> rfl
theorem a279 (h : Has P L 279 c279) (h295 : Has P L 295 c295) (h296 : Has P L 296 c296) (h297 : Has P L 297 c297) (h302 : Has P L 302 c302) (h294 : Has P L 294 c294) (h300 : Has P L 300 c300) {v w : AV} {n m : Int} (hv : IsR v n) (hw : IsR w m) (hn : n.natAbs < 1000000000 ^ 400000) (hm : m.natAbs < 1000000000 ^ 400000) :
    ∃ r, Ans P L 279 [v, w] r ∧ IsR r (n + m) := by
  obtain ⟨x, a, rfl, hx, ha, na, va⟩ := hv
  obtain ⟨y, b, rfl, hy, hb, nb, vb⟩ := hw
  have la := len_le ha na (by rw [va]; exact hn)
  have lb := len_le hb nb (by rw [vb]; exact hm)
  by_cases hs : (decide (n < 0) == decide (m < 0)) = true
  · obtain ⟨z, out, e1, hz, hd, hval, hl⟩ := a295 h295 h302 hx hy ha hb (by omega) (by omega)
    have lo : out.length ≤ 1000000 := by omega
    obtain ⟨r, e2, hr⟩ := a294 h294 h300 (decide (n < 0)) hz hd lo
    have e : sgnV (decide (n < 0)) (dv out) = n + m := by
      have hab : (n < 0) = (m < 0) := by simpa using eq_of_beq hs
      rw [hval, va, vb]; unfold sgnV
      by_cases h0 : n < 0
      · have h1 : m < 0 := hab ▸ h0
        simp only [h0, decide_true, if_true]; omega
      · have h1 : ¬ m < 0 := hab ▸ h0
        simp only [h0, decide_false, Bool.false_eq_true, if_false]; omega
    rw [e] at hr
    obtain ⟨w2, l2, rfl, hw2, hd2, hz2, hdv2⟩ := hr
    refine ⟨_, ?_, w2, l2, rfl, hw2, hd2, hz2, hdv2⟩
    unfold Ans at e1 e2 ⊢; rw [call_eq h]
    simp only [go_sem, Nat.reduceEqDiff, Nat.reduceAdd, c279, boxV_n, hx.pu, hx.frz, hx.one, hy.pu, hy.frz, hy.one, hz.frz, hw2.pu, hw2.one, off_ptr, Nat.zero_add, drop1, e1, eq_bb, eqB'_f, hs, e2, stC_2, shut_agg]
    rcases hw2 with ⟨rfl, _⟩ | ⟨e, rfl⟩ <;> rfl
  · have hs : (decide (n < 0) == decide (m < 0)) = false := by simpa using hs
    have hab : ¬ ((n < 0) = (m < 0)) := fun e => by simp [e] at hs
    have ec := a296 h296 hx hy ha hb na nb (by omega) (by omega)
    by_cases hc : dv a < dv b
    · have hc1 : cmpN (dv a) (dv b) = -1 := by unfold cmpN; rw [if_pos hc]
      rw [hc1] at ec
      obtain ⟨z, out, e1, hz, hsh, hd, hnz, hval⟩ := a297 h297 h302 h300 hy hx hb ha nb na (by omega) (by omega)
      have lo : out.length ≤ 1000000 := by
        refine len_le hd hnz ?_
        have := dv_lt hb
        have hk : ∀ K, b.length ≤ K → dv out < 1000000000 ^ K := fun K h => Nat.lt_of_lt_of_le (show dv out < 1000000000 ^ b.length by omega) (Nat.pow_le_pow_right (by decide) h)
        exact hk 1000000 (by omega)
      obtain ⟨r, e2, hr⟩ := a294 h294 h300 (decide (m < 0)) hz hd lo
      have e : sgnV (decide (m < 0)) (dv out) = n + m := by
        rw [va, vb] at hval; unfold sgnV
        by_cases h0 : m < 0
        · have h1 : ¬ n < 0 := fun h1 => hab (by simp [h0, h1])
          simp only [h0, decide_true, if_true]; omega
        · have h1 : n < 0 := by
            by_cases h1 : n < 0
            · exact h1
            · exact absurd (by simp [h0, h1]) hab
          simp only [h0, decide_false, Bool.false_eq_true, if_false]; omega
      rw [e] at hr
      obtain ⟨w2, l2, rfl, hw2, hd2, hz2, hdv2⟩ := hr
      refine ⟨_, ?_, w2, l2, rfl, hw2, hd2, hz2, hdv2⟩
      unfold Ans at e1 e2 ec ⊢; rw [call_eq h]
      simp only [go_sem, Nat.reduceEqDiff, Nat.reduceAdd, c279, boxV_n, hx.pu, hx.frz, hx.one, hy.pu, hy.frz, hy.one, hz.frz, hz.shut, hw2.pu, hw2.one, off_ptr, Nat.zero_add, drop1, e1, eq_bb, eqB'_f, hs, ec, show ¬ (0 : Int) ≤ -1 by decide, e2, stC_2, shut_agg]
      rcases hw2 with ⟨rfl, _⟩ | ⟨e, rfl⟩ <;> rfl
    · have hc1 : (0 : Int) ≤ cmpN (dv a) (dv b) := by unfold cmpN; rw [if_neg hc]; split <;> decide
      obtain ⟨z, out, e1, hz, hsh, hd, hnz, hval⟩ := a297 h297 h302 h300 hx hy ha hb na nb (by omega) (by omega)
      have lo : out.length ≤ 1000000 := by
        refine len_le hd hnz ?_
        have := dv_lt ha
        have hk : ∀ K, a.length ≤ K → dv out < 1000000000 ^ K := fun K h => Nat.lt_of_lt_of_le (show dv out < 1000000000 ^ a.length by omega) (Nat.pow_le_pow_right (by decide) h)
        exact hk 1000000 (by omega)
      obtain ⟨r, e2, hr⟩ := a294 h294 h300 (decide (n < 0)) hz hd lo
      have e : sgnV (decide (n < 0)) (dv out) = n + m := by
        rw [va, vb] at hval; unfold sgnV
        by_cases h0 : n < 0
        · have h1 : ¬ m < 0 := fun h1 => hab (by simp [h0, h1])
          simp only [h0, decide_true, if_true]; omega
        · have h1 : m < 0 := by
            by_cases h1 : m < 0
            · exact h1
            · exact absurd (by simp [h0, h1]) hab
          simp only [h0, decide_false, Bool.false_eq_true, if_false]; omega
      rw [e] at hr
      obtain ⟨w2, l2, rfl, hw2, hd2, hz2, hdv2⟩ := hr
      refine ⟨_, ?_, w2, l2, rfl, hw2, hd2, hz2, hdv2⟩
      unfold Ans at e1 e2 ec ⊢; rw [call_eq h]
      simp only [go_sem, Nat.reduceEqDiff, Nat.reduceAdd, c279, boxV_n, hx.pu, hx.frz, hx.one, hy.pu, hy.frz, hy.one, hz.frz, hz.shut, hw2.pu, hw2.one, off_ptr, Nat.zero_add, drop1, e1, eq_bb, eqB'_f, hs, ec, hc1, e2, stC_2, shut_agg]
      rcases hw2 with ⟨rfl, _⟩ | ⟨e, rfl⟩ <;> rfl
end
end VE
end
section
set_option maxRecDepth 100000
namespace VE
open Go (IntKind)
section
variable {P : Prog} {L : Lib}
theorem one_lt {l : List Int} (hd : dg l) (h : l.length ≤ 1) : dv l < 1000000000 := by
  have := dv_lt hd
  have h2 := Nat.pow_le_pow_right (show 0 < 1000000000 by decide) h
  omega
theorem len_one {l : List Int} (hd : dg l) (hn : nz l) (h : dv l < 1000000000) : l.length ≤ 1 := len_le hd hn (by simpa using h)
theorem a289 (h : Has P L 289 c289) (h296 : Has P L 296 c296) (h299 : Has P L 299 c299) (h300 : Has P L 300 c300) {v w : AV} {a b : List Int} (hv : IsI v a) (hw : IsI w b) (ha : dg a) (hb : dg b) (na : nz a) (nb : nz b) (la : a.length ≤ 1000000) (lb : b.length ≤ 1) (h0 : 0 < dv b) :
    ∃ q r lq lr, Ans P L 289 [v, w] (.tup [q, r]) ∧ IsI q lq ∧ IsI r lr ∧ dg lq ∧ nz lq ∧ dg lr ∧ nz lr ∧ dv lq = dv a / dv b ∧ dv lr = dv a % dv b := by
  have ec := a296 h296 hv hw ha hb na nb la (by omega)
  unfold Ans at ec
  by_cases hc : dv a < dv b
  · have hc1 : cmpN (dv a) (dv b) = -1 := by unfold cmpN; rw [if_pos hc]
    rw [hc1] at ec
    refine ⟨.nils, v, [], a, ?_, isL_nils, hv, rfl, rfl, ha, na, ?_, ?_⟩
    · unfold Ans; rw [call_eq h]
      simp only [go_sem, Nat.reduceEqDiff, c289, hv.frz, hw.frz, ec, show (-1 : Int) < 0 by decide]
      rcases hv with ⟨rfl, _⟩ | ⟨e, rfl⟩ <;> rfl
    · rw [Nat.div_eq_of_lt hc]; rfl
    · rw [Nat.mod_eq_of_lt hc]
  · have hc1 : ¬ cmpN (dv a) (dv b) < 0 := by unfold cmpN; rw [if_neg hc]; split <;> decide
    have hl1 : b.length = 1 := by
      rcases Nat.eq_zero_or_pos b.length with e | e
      · rw [List.eq_nil_of_length_eq_zero e] at h0; simp [dv] at h0
      · omega
    obtain ⟨x, rfl⟩ : ∃ x, b = [x] := by
      cases b with
      | nil => simp at hl1
      | cons x r => cases r with
        | nil => exact ⟨x, rfl⟩
        | cons y r => simp at hl1
    have gx := dg_one.1 hb
    obtain ⟨d, hd⟩ : ∃ d : Nat, x = d := ⟨x.toNat, by omega⟩
    subst hd
    have hdd : dv [((d : Nat) : Int)] = d := by simp [dv]
    rw [hdd] at h0 hc hc1 ec ⊢
    obtain ⟨q, lq, e1, hq, hqs, hqs1, dq, nq, vq⟩ := a299 h299 h300 hv ha la h0 (by omega)
    have hrest : dv a % d < d := Nat.mod_lt _ h0
    generalize dv a % d = m at *
    obtain ⟨r, e2, hr, hrs⟩ := a300 h300 (isI_vsl true [(m : Int)]) (by simp)
    unfold Ans at e1 e2
    refine ⟨q, r, lq, trimL [(m : Int)], ?_, hq, hr, dq, nq, trimL_dg (dg_one.2 (by omega)), nz_trim _, vq, by rw [trimL_dv]; simp [dv]⟩
    have e3 := hw.ixa (i := 0) (by simp)
    simp only [List.length_cons, List.length_nil, Nat.zero_add, List.map_cons, List.map_nil, List.getElem_cons_zero] at e2 e3
    unfold Ans; rw [call_eq h]
    simp only [go_sem, Nat.reduceEqDiff, Nat.reduceAdd, Nat.reduceLT, Nat.reduceLeDiff, Nat.mul_one, c289, hv.frz, hw.len, hw.frz, ec, hc1, List.length_cons, List.length_nil, show ((1 : Nat) : Int) = (1 : Int) from rfl, decide_true, e3, e1, hqs1, e2, hrs]
    rcases hq with ⟨rfl, _⟩ | ⟨e, rfl⟩ <;> rcases hr with ⟨rfl, _⟩ | ⟨e', rfl⟩ <;> rfl
end
end VE
end
section
set_option maxRecDepth 100000
namespace VE
open Go (IntKind)
section
variable {P : Prog} {L : Lib}
theorem a275 (h : Has P L 275 c275) (h289 : Has P L 289 c289) (h296 : Has P L 296 c296) (h299 : Has P L 299 c299) (h300 : Has P L 300 c300) {v w : AV} {a b : List Int} (hv : IsI v a) (hw : IsI w b) (ha : dg a) (hb : dg b) (na : nz a) (nb : nz b) (la : a.length ≤ 1000000) (lb : b.length ≤ 1) :
    ∃ r l, Ans P L 275 [v, w] r ∧ IsI r l ∧ dg l ∧ nz l ∧ dv l = Nat.gcd (dv a) (dv b) := by
  have key := loop_can (P := P) (L := L) (live := [0, 1]) (a := c275_0)
    (I := fun k st => ∃ x y lx ly, st = ⟨[(0, x), (1, y)], [], 0, 0⟩ ∧ IsI x lx ∧ IsI y ly ∧ dg lx ∧ nz lx ∧ dg ly ∧ nz ly ∧ lx.length ≤ 1000000 ∧ ly.length ≤ 1 ∧ dv ly = k ∧ Nat.gcd (dv lx) (dv ly) = Nat.gcd (dv a) (dv b))
    (Q := fun ex st => ∃ tm ct, st = ⟨tm, [], ct, 0⟩ ∧ ex = .exit 0 ∧ ∃ x lx, tget tm 0 = x ∧ IsI x lx ∧ dg lx ∧ nz lx ∧ dv lx = Nat.gcd (dv a) (dv b)) ?_
  · unfold Ans; rw [call_eq h]
    simp only [go_sem, c275]
    generalize hq : D P L (.loop [0, 1] c275_0) _ = q
    obtain ⟨ex, st, rfl, tm, ct, rfl, rfl, x, lx, h2, hx, dx, nx, vx⟩ := of_key hq (key (dv b)) ⟨v, w, a, b, by simp only [go_sem, Nat.reduceEqDiff, compact0, refs_pure hv.pu, ren_pure _ hv.pu, refs_pure hw.pu, ren_pure _ hw.pu] <;> rfl, hv, hw, ha, na, hb, nb, la, lb, rfl, rfl⟩
    refine ⟨x, lx, ?_, hx, dx, nx, vx⟩
    simp only [go_sem, compact0, h2, hx.res, refs_pure hx.pu, ren_pure _ hx.pu]
  · rintro k st ⟨x, y, lx, ly, rfl, hx, hy, dx, nx, dy, ny, llx, lly, rfl, hg⟩
    by_cases h0 : ly = []
    · right
      subst h0
      simp only [go_sem, Nat.reduceEqDiff, c275_0, hy.len, List.length_nil, show ¬ (0 : Int) < ((0 : Nat) : Int) by omega]
      refine ⟨_, _, rfl, by simp, _, _, rfl, rfl, x, lx, by simp only [go_sem, Nat.reduceEqDiff], hx, dx, nx, ?_⟩
      rw [← hg]; simp [dv]
    · left
      have hp : 0 < dv ly := by
        rcases Nat.eq_zero_or_pos (dv ly) with e | e
        · exact absurd (nz_zero ny dy e) h0
        · exact e
      have hl : 0 < ly.length := List.length_pos_iff.2 h0
      obtain ⟨q, r, lq, lr, e1, hq, hr, dq, nq, dr, nr, vq, vr⟩ := a289 h289 h296 h299 h300 hx hy dx dy nx ny llx lly hp
      have hlt : dv lr < dv ly := by rw [vr]; exact Nat.mod_lt _ hp
      have hB := one_lt dy lly
      unfold Ans at e1
      simp only [go_sem, Nat.reduceEqDiff, c275_0, hx.frz, hy.len, hy.frz, show (0 : Int) < ly.length by omega, e1, hq.shut1, hr.shut1]
      refine ⟨_, dv lr, rfl, hlt, y, r, ly, lr, ?_, hy, hr, dy, ny, dr, nr, by omega, len_one dr nr (by omega), rfl, ?_⟩
      · simp only [go_sem, Nat.reduceEqDiff, compact0, refs_pure hy.pu, ren_pure _ hy.pu, refs_pure hr.pu, ren_pure _ hr.pu] <;> rfl
      · rw [← hg, vr, Nat.gcd_comm (dv ly), ← Nat.gcd_rec, Nat.gcd_comm]
theorem a292_9 (h : Has P L 292 c292) {n : Nat} (hn : n < 1000000000) : Ans P L 292 [I64 n, I64 9] (.str (padN 9 n)) := by
  have key := loop_can (P := P) (L := L) (live := [0, 1, 5]) (a := c292_0)
    (I := fun k st => ∃ (m : Nat) (s : List Nat), st = ⟨[(0, I64 m), (1, I64 9), (5, .str s)], [], 0, 0⟩ ∧ s.length + k = 9 ∧ m < 10 ^ k ∧ padN 9 n = padN k m ++ s)
    (Q := fun ex st => ∃ tm ct, st = ⟨tm, [], ct, 0⟩ ∧ ex = .exit 0 ∧ tget tm 5 = .str (padN 9 n)) ?_
  · unfold Ans; rw [call_eq h]
    simp only [go_sem, c292]
    generalize hq : D P L (.loop [0, 1, 5] c292_0) _ = q
    obtain ⟨ex, st, rfl, tm, ct, rfl, rfl, h2⟩ := of_key hq (key 9) ⟨n, [], by simp only [go_sem, Nat.reduceEqDiff, compact0] <;> rfl, rfl, by omega, by simp⟩
    simp only [go_sem, compact0, h2]
  · rintro k st ⟨m, s, rfl, hk, hm, hs⟩
    cases k with
    | zero =>
      right
      have hm0 : m = 0 := by simpa using hm
      subst hm0
      simp only [go_sem, Nat.reduceEqDiff, c292_0, show ¬ (0 : Int) < ((0 : Nat) : Int) by omega, show ¬ ((s.length : Nat) : Int) < 9 by omega]
      refine ⟨_, _, rfl, by simp, _, _, rfl, rfl, ?_⟩
      simp only [go_sem, Nat.reduceEqDiff]
      rw [hs]; rfl
    | succ k =>
      left
      have hr : ((m : Int)).tmod 10 = ((m % 10 : Nat) : Int) := by rw [Int.tmod_eq_emod_of_nonneg (by omega)]; rfl
      have hq : ((m : Int)).tdiv 10 = ((m / 10 : Nat) : Int) := by rw [Int.tdiv_eq_ediv_of_nonneg (by omega)]; rfl
      have hd := digit_char (r := m % 10) (by omega)
      have hmb : m < 10000000000 := Nat.lt_of_lt_of_le hm (by simpa using Nat.pow_le_pow_right (show 0 < 10 by decide) (show k + 1 ≤ 10 by omega))
      have fin : ∃ s', D P L c292_0 ⟨[(0, I64 m), (1, I64 9), (5, .str s)], [], 0, 0⟩ = some (.normal, s') ∧ compact [0, 1, 5] s' = ⟨[(0, I64 (m / 10 : Nat)), (1, I64 9), (5, .str ([48 + m % 10] ++ s))], [], 0, 0⟩ := by
        by_cases hc : (0 : Int) < m
        · simp only [go_sem, Nat.reduceEqDiff, Nat.reduceAdd, c292_0, hc, bin_rem _ _ _ (show (10 : Int) ≠ 0 by decide), bin_quo _ _ _ (show (10 : Int) ≠ 0 by decide), hr, hq, wrapN (n := m % 10 + 1) (by omega), wrap64 (n := ((m / 10 : Nat) : Int)) (by omega) (by omega), cut_str, bound_s, show ((m % 10 : Nat) : Int) + 1 = ((m % 10 + 1 : Nat) : Int) from rfl, hd, str_add (a := [48 + m % 10]) (b := s) (by simp; omega)]
          exact ⟨_, rfl, by simp only [go_sem, Nat.reduceEqDiff, compact0]⟩
        · simp only [go_sem, Nat.reduceEqDiff, Nat.reduceAdd, c292_0, hc, show ((s.length : Nat) : Int) < 9 by omega, bin_rem _ _ _ (show (10 : Int) ≠ 0 by decide), bin_quo _ _ _ (show (10 : Int) ≠ 0 by decide), hr, hq, wrapN (n := m % 10 + 1) (by omega), wrap64 (n := ((m / 10 : Nat) : Int)) (by omega) (by omega), cut_str, bound_s, show ((m % 10 : Nat) : Int) + 1 = ((m % 10 + 1 : Nat) : Int) from rfl, hd, str_add (a := [48 + m % 10]) (b := s) (by simp; omega)]
          exact ⟨_, rfl, by simp only [go_sem, Nat.reduceEqDiff, compact0]⟩
      obtain ⟨s', f1, f2⟩ := fin
      exact ⟨s', k, f1, by omega, m / 10, _, f2, by simp; omega, by rw [Nat.pow_succ] at hm; omega, by rw [hs]; simp [padN]⟩
end
end VE
end
section
set_option maxRecDepth 100000
namespace VE
open Go (IntKind)
theorem last_pos {l : List Int} (hd : dg l) (hn : nz l) (h : 0 < l.length) : 0 < l.getD (l.length - 1) 0 := by
  rcases snoc l with rfl | ⟨m, a, rfl⟩
  · simp at h
  · have e : (m ++ [a]).getD ((m ++ [a]).length - 1) 0 = a := by simp [List.getD_eq_getElem?_getD]
    rw [e]
    have ha := dg_one.1 (dg_append.1 hd).2
    by_cases h0 : a = 0
    · subst h0
      have := trimL_len m
      have e := congrArg List.length hn
      rw [trimL_zero] at e
      simp at e
      omega
    · omega
section
variable {P : Prog} {L : Lib}
theorem a282_0 (h292 : Has P L 292 c292) {neg : Bool} {w : AV} {l : List Int} (hw : IsI w l) (hd : dg l) (hn : nz l) (hl : l.length ≤ 1000000) :
    ∀ k s, (∃ (j : Nat) (t : List Nat), compact [1, 3, 4] s = ⟨[(1, .ptr 0 0), (3, .str t), (4, I64 ((j : Int) - 1))], [(0, .cells true true true 2 [.bool neg, w])], 1, 0⟩ ∧ j = k ∧ j < l.length ∧ 0 < dv (l.drop j) ∧ t = natS (dv (l.drop j)) ∧ t.length ≤ 9 * (l.length - j)) →
      ∃ ex s', D P L (.loop [1, 3, 4] c282_0) s = some (ex, s') ∧ ∃ tm, s' = ⟨tm, [(0, .cells true true true 2 [.bool neg, w])], 1, 0⟩ ∧ ex = .exit 0 ∧ tget tm 1 = .ptr 0 0 ∧ tget tm 3 = .str (natS (dv l)) ∧ (natS (dv l)).length ≤ 9000000 := by
  refine loop_can (I := fun k s => ∃ (j : Nat) (t : List Nat), s = ⟨[(1, .ptr 0 0), (3, .str t), (4, I64 ((j : Int) - 1))], [(0, .cells true true true 2 [.bool neg, w])], 1, 0⟩ ∧ j = k ∧ j < l.length ∧ 0 < dv (l.drop j) ∧ t = natS (dv (l.drop j)) ∧ t.length ≤ 9 * (l.length - j))
    (Q := fun ex s' => ∃ tm, s' = ⟨tm, [(0, .cells true true true 2 [.bool neg, w])], 1, 0⟩ ∧ ex = .exit 0 ∧ tget tm 1 = .ptr 0 0 ∧ tget tm 3 = .str (natS (dv l)) ∧ (natS (dv l)).length ≤ 9000000) ?_
  rintro k s ⟨j, t, rfl, rfl, hj, hpos, ht, htl⟩
  cases j with
  | zero =>
    right
    rw [List.drop_zero] at ht
    simp only [go_sem, Nat.reduceEqDiff, c282_0, show ¬ (0 : Int) ≤ ((0 : Nat) : Int) - 1 by omega]
    exact ⟨_, _, rfl, by simp, _, rfl, rfl, by simp only [go_sem, Nat.reduceEqDiff], by rw [← ht]; simp only [go_sem, Nat.reduceEqDiff], by rw [← ht]; omega⟩
  | succ i =>
    left
    have hi : i < l.length := by omega
    obtain ⟨x, hx⟩ : ∃ x, x = l.getD i 0 := ⟨_, rfl⟩
    have e1 := ixa_D hw hi
    have gx := dg_get hd i
    rw [← hx] at e1 gx
    obtain ⟨m, rfl⟩ : ∃ m : Nat, x = m := ⟨x.toNat, by omega⟩
    have e2 := a292_9 h292 (n := m) (by omega)
    unfold Ans at e2
    have hlp := padN_len 9 m
    have hdr : dv (l.drop i) = dv (l.drop (i + 1)) * 10 ^ 9 + m := by
      have : l.drop i = (m : Int) :: l.drop (i + 1) := by
        rw [List.drop_eq_getElem_cons hi, hx]
        simp [List.getD_eq_getElem?_getD, List.getElem?_eq_getElem hi]
      rw [this]; simp only [dv, Int.toNat_natCast]; omega
    have hnat : natS (dv (l.drop i)) = t ++ padN 9 m := by
      rw [hdr, natS_pad 9 _ m hpos (by omega), ht]
    simp only [go_sem, Nat.reduceEqDiff, c282_0, show ((i + 1 : Nat) : Int) - 1 = (i : Int) by omega, show (0 : Int) ≤ (i : Int) by omega, off_ptr, Nat.zero_add, drop1, e1, e2, str_add (a := t) (b := padN 9 m) (by omega)]
    refine ⟨_, i, rfl, by omega, i, t ++ padN 9 m, ?_, rfl, by omega, by omega, hnat.symm, by simp; omega⟩
    rw [wrap64 (by omega) (by omega)]
    simp only [go_sem, Nat.reduceEqDiff, Nat.reduceAdd, compact0] <;> rfl
theorem a282 (h : Has P L 282 c282) (h292 : Has P L 292 c292) {v : AV} {n : Int} (hv : IsR v n) (hn : n.natAbs < 1000000000 ^ 900000) : Ans P L 282 [v] (.str (intS n)) ∧ (intS n).length ≤ 9000001 := by
  obtain ⟨w, l, rfl, hw, hd, hz, hdv⟩ := hv
  have hl := len_le hd hz (by rw [hdv]; exact hn)
  by_cases h0 : l = []
  · subst h0
    have hn0 : n = 0 := by simp [dv] at hdv; omega
    subst hn0
    refine ⟨?_, by decide⟩
    unfold Ans; rw [call_eq h]
    simp only [go_sem, Nat.reduceEqDiff, Nat.reduceAdd, c282, boxV_n, hw.len, hw.pu, hw.one, off_ptr, Nat.zero_add, drop1, List.length_nil, show ((0 : Nat) : Int) = (0 : Int) from rfl, decide_true]
    rfl
  · have hpos : 0 < l.length := List.length_pos_iff.2 h0
    obtain ⟨x, hx⟩ : ∃ x, x = l.getD (l.length - 1) 0 := ⟨_, rfl⟩
    have e1 := ixa_D hw (show l.length - 1 < l.length by omega)
    have gx := dg_get hd (l.length - 1)
    have gp := last_pos hd hz hpos
    rw [← hx] at e1 gx gp
    obtain ⟨m, rfl⟩ : ∃ m : Nat, x = m := ⟨x.toNat, by omega⟩
    have e2 := a292 h292 (n := m) (by omega)
    unfold Ans at e2
    have hdr : dv (l.drop (l.length - 1)) = m := by
      rw [List.drop_eq_getElem_cons (show l.length - 1 < l.length by omega), List.drop_eq_nil_of_le (by omega)]
      have : l[l.length - 1] = (m : Int) := by rw [hx]; simp [List.getD_eq_getElem?_getD, List.getElem?_eq_getElem (show l.length - 1 < l.length by omega)]
      simp [dv, this]
    have h9 : (natS m).length ≤ 9 := natS_len (k := 8) (by omega)
    have fin : ∀ neg : Bool, callPure P L (D P L) 282 [.agg [.bool neg, w]] = some (.str ((if neg = true then [45] else []) ++ natS (dv l))) ∧ (natS (dv l)).length ≤ 9000000 := fun neg => by
      rw [call_eq h]
      simp only [go_sem, Nat.reduceEqDiff, Nat.reduceAdd, c282, boxV_n, hw.len, hw.pu, hw.one, off_ptr, Nat.zero_add, drop1, show ¬ (l.length : Int) = 0 by omega, show (l.length : Int) - 1 = ((l.length - 1 : Nat) : Int) by omega, wrapN (n := l.length - 1) (by omega), e1, e2]
      generalize hq : D P L (.loop [1, 3, 4] c282_0) _ = q
      obtain ⟨ex, s, rfl, tm, rfl, rfl, t1, t3, hlen⟩ := of_key hq (a282_0 (P := P) (L := L) h292 (neg := neg) hw hd hz (by omega) (l.length - 1)) ⟨l.length - 1, natS m, by
        rw [show (l.length : Int) - 2 = ((l.length - 1 : Nat) : Int) - 1 by omega, wrap64 (by omega) (by omega)]
        simp only [go_sem, Nat.reduceEqDiff, Nat.reduceAdd, compact0] <;> rfl, rfl, by omega, by rw [hdr]; omega, by rw [hdr], by omega⟩
      refine ⟨?_, hlen⟩
      cases neg with
      | true =>
        simp only [go_sem, Nat.reduceEqDiff, compact0, t1, t3, off_ptr, Nat.zero_add, str_add (a := [45]) (b := natS (dv l)) (by simp; omega), if_true]
      | false =>
        simp only [go_sem, Nat.reduceEqDiff, compact0, t1, t3, off_ptr, Nat.zero_add]
        rfl
    obtain ⟨f1, f2⟩ := fin (decide (n < 0))
    rw [hdv] at f1 f2
    simp only [decide_eq_true_eq] at f1
    rw [sign_text] at f1
    refine ⟨f1, ?_⟩
    rw [← sign_text]
    split <;> simp <;> omega
structure Ra (P : Prog) (L : Lib) : Prop where
  h262 : Has P L 262 c262
  h264 : Has P L 264 c264
  h267 : Has P L 267 c267
  h268 : Has P L 268 c268
  h271 : Has P L 271 c271
  h272 : Has P L 272 c272
  h274 : Has P L 274 c274
  h275 : Has P L 275 c275
  h276 : Has P L 276 c276
  h277 : Has P L 277 c277
  h278 : Has P L 278 c278
  h279 : Has P L 279 c279
  h280 : Has P L 280 c280
  h281 : Has P L 281 c281
  h282 : Has P L 282 c282
  h288 : Has P L 288 c288
  h289 : Has P L 289 c289
  h290 : Has P L 290 c290
  h291 : Has P L 291 c291
  h292 : Has P L 292 c292
  h293 : Has P L 293 c293
  h294 : Has P L 294 c294
  h295 : Has P L 295 c295
  h296 : Has P L 296 c296
  h297 : Has P L 297 c297
  h298 : Has P L 298 c298
  h299 : Has P L 299 c299
  h300 : Has P L 300 c300
  h302 : Has P L 302 c302
theorem pow_mono {k m : Nat} (h : k ≤ m) : 1000000000 ^ k ≤ 1000000000 ^ m := Nat.pow_le_pow_right (by decide) h
theorem a280 (h : Ra P L) {v w : AV} {n d : Int} (hv : IsR v n) (hw : IsR w d) (hn : n.natAbs < 1000000000 ^ 400000) (hd : 0 < d ∧ d < 1000000000) : Ans P L 280 [v, w] (.str (ratT n d)) := by
  obtain ⟨x, a, rfl, hx, ha, na, va⟩ := hv
  obtain ⟨y, b, rfl, hy, hb, nb, vb⟩ := hw
  have la := len_le ha na (by rw [va]; exact hn)
  have lb : b.length ≤ 1 := len_one hb nb (by omega)
  obtain ⟨g, lg, e1, hg, dg', ng, vg⟩ := a275 h.h275 h.h289 h.h296 h.h299 h.h300 hx hy ha hb na nb (by omega) lb
  rw [va, vb, show Nat.gcd n.natAbs d.natAbs = Int.gcd n d from rfl] at vg
  have hg0 := gcd_pos (a := n) hd.1
  have hgle : Int.gcd n d ≤ d.natAbs := Int.gcd_le_natAbs_right n (by omega)
  have lg1 : lg.length ≤ 1 := len_one dg' ng (by omega)
  obtain ⟨p, p', lp, lp', e2, hp, hp', dp, np, dp', np', vp, vp'⟩ := a289 h.h289 h.h296 h.h299 h.h300 hx hg ha dg' na ng (by omega) lg1 (by omega)
  obtain ⟨q, q', lq, lq', e3, hq, hq', dq, nq, dq', nq', vq, vq'⟩ := a289 h.h289 h.h296 h.h299 h.h300 hy hg hb dg' nb ng (by omega) lg1 (by omega)
  rw [va, vg] at vp
  rw [vb, vg] at vq
  have hrn : (rnum n d).natAbs = n.natAbs / Int.gcd n d := by unfold rnum; rw [Int.natAbs_ediv_of_dvd (Int.gcd_dvd_left n d)]; rfl
  have hrd : (rden n d).natAbs = d.natAbs / Int.gcd n d := by unfold rden; rw [Int.natAbs_ediv_of_dvd (Int.gcd_dvd_right n d)]; rfl
  have hdp := rden_pos (a := n) hd.1
  rw [← hrn] at vp
  rw [← hrd] at vq
  have hnum := num_eq n d
  have hsg : sgnV (decide (n < 0)) (dv lp) = rnum n d := by
    rw [vp]; unfold sgnV
    by_cases h0 : n < 0
    · have : ¬ 0 ≤ rnum n d := fun h1 => by have := Int.mul_nonneg (Int.le_of_lt hg0) h1; omega
      simp only [h0, decide_true, if_true]; omega
    · have : ¬ rnum n d < 0 := fun h1 => by have := Int.mul_neg_of_pos_of_neg hg0 h1; omega
      simp only [h0, decide_false, Bool.false_eq_true, if_false]; omega
  have lp1 : lp.length ≤ 400000 := by
    refine len_le dp np ?_
    rw [vp]
    exact Nat.lt_of_le_of_lt (rnum_abs n d) hn
  obtain ⟨s, e4, hs⟩ := a294 h.h294 h.h300 (decide (n < 0)) hp dp (by omega)
  rw [hsg] at hs
  obtain ⟨e5, l5⟩ := a282 h.h282 h.h292 hs (Nat.lt_of_lt_of_le (Nat.lt_of_le_of_lt (rnum_abs n d) hn) (pow_mono (k := 400000) (m := 900000) (by decide)))
  have lq1 : lq.length ≤ 1 := len_one dq nq (by rw [vq]; have := rden_abs n d; omega)
  obtain ⟨u, e6, hu⟩ := a294 h.h294 h.h300 false hq dq (by omega)
  have hu2 : sgnV false (dv lq) = rden n d := by rw [vq]; unfold sgnV; simp only [Bool.false_eq_true, if_false]; omega
  rw [hu2] at hu
  obtain ⟨e7, l7⟩ := a282 h.h282 h.h292 hu (Nat.lt_of_lt_of_le (show (rden n d).natAbs < 1000000000 ^ 1 by have := rden_abs n d; simp; omega) (pow_mono (k := 1) (m := 900000) (by decide)))
  obtain ⟨sw, sl, rfl, hsw, _, _, _⟩ := hs
  obtain ⟨uw, ul, rfl, huw, _, _, _⟩ := hu
  have hqpos : 0 < lq.length := by
    rcases Nat.eq_zero_or_pos lq.length with e | e
    · rw [List.eq_nil_of_length_eq_zero e] at vq; simp [dv] at vq; omega
    · exact e
  have hql : lq.length = 1 := by omega
  obtain ⟨z, rfl⟩ : ∃ z, lq = [z] := by
    cases lq with
    | nil => simp at hql
    | cons z r => cases r with
      | nil => exact ⟨z, rfl⟩
      | cons y r => simp at hql
  have gz := dg_one.1 dq
  have hzd : z = rden n d := by simp [dv] at vq; omega
  have e8 := hq.ixa (i := 0) (by simp)
  simp only [List.getElem_cons_zero] at e8
  unfold Ans at e1 e2 e3 e4 e5 e6 e7 ⊢
  rw [call_eq h.h280]
  by_cases h1 : rden n d = 1
  · have hT : ratT n d = intS (rnum n d) := by unfold ratT; rw [if_pos h1]
    rw [hT]
    simp only [go_sem, Nat.reduceEqDiff, Nat.reduceAdd, c280, boxV_n, hx.pu, hx.frz, hx.one, hy.pu, hy.frz, hy.one, off_ptr, Nat.zero_add, drop1, show ¬ d < 0 by omega, decide_false, e1, hg.frz, hg.shut, e2, hp.frz, hp.shut1, hp'.shut1, e3, hq.len, hq.shut1, hq'.shut1, e4, hsw.frz, frz_agg0, shut_agg, e5, List.length_cons, List.length_nil, show ((1 : Nat) : Int) = (1 : Int) from rfl, decide_true, e8, hzd, h1]
  · have hT : ratT n d = (intS (rnum n d) ++ [47]) ++ intS (rden n d) := by unfold ratT; rw [if_neg h1]
    rw [hT]
    simp only [go_sem, Nat.reduceEqDiff, Nat.reduceAdd, c280, boxV_n, hx.pu, hx.frz, hx.one, hy.pu, hy.frz, hy.one, off_ptr, Nat.zero_add, drop1, show ¬ d < 0 by omega, decide_false, e1, hg.frz, hg.shut, e2, hp.frz, hp.shut1, hp'.shut1, e3, hq.len, hq.frz, hq.shut1, hq'.shut1, e4, hsw.frz, frz_agg0, shut_agg, e5, List.length_cons, List.length_nil, show ((1 : Nat) : Int) = (1 : Int) from rfl, decide_true, e8, hzd, h1, str_add (a := intS (rnum n d)) (b := [47]) (by simp; omega), e6, huw.frz, e7, str_add (a := intS (rnum n d) ++ [47]) (b := intS (rden n d)) (by simp; omega)]
end
end VE
end
