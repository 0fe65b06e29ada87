import Derived.Test.YteioemjpepbdgaaGreatDoorStatB
import Derived.Test.YteioemjpepbdgaaGreatDoorSkyC
set_option linter.all false
section
set_option maxRecDepth 100000
namespace VE
open Go (IntKind)
def shRow (s : List (List Int)) (a b : Int) (r : Nat) (n : Nat) : List Int := (List.range n).map fun c : Nat => cellI s ((c : Int) - a) ((r : Int) - b)
def shRows (s : List (List Int)) (a b : Int) (n r : Nat) : List (List Int) := (List.range r).map fun r => shRow s a b r n
theorem shRow_len (s : List (List Int)) (a b : Int) (r n : Nat) : (shRow s a b r n).length = n := by simp [shRow]
theorem shRow_succ (s : List (List Int)) (a b : Int) (r n : Nat) : shRow s a b r (n + 1) = shRow s a b r n ++ [cellI s ((n : Int) - a) ((r : Int) - b)] := by simp [shRow, List.range_succ]
theorem shRows_len (s : List (List Int)) (a b : Int) (n r : Nat) : (shRows s a b n r).length = r := by simp [shRows]
theorem shRows_succ (s : List (List Int)) (a b : Int) (n r : Nat) : shRows s a b n (r + 1) = shRows s a b n r ++ [shRow s a b r n] := by simp [shRows, List.range_succ]
section
variable {P : Prog} {L : Lib}
theorem w260_0 {v : AV} {s : List (List Int)} (hv : IsS v s) {n : Nat} (hn : s.length = n) (hn0 : 0 < n) (hn1 : n ≤ 16) (hs : sqChk n (-1000) 1000 s = 0) (h43 : Has P L 43 c43) {a b : Int} (ha : chkFrm a = 0) (hb : chkFrm b = 0) {r : Nat} (hr : r < n) {o : List AV} :
    ∀ d st, (∃ c : Nat, compact [0, 1, 2, 7, 8, 9, 10] st = ⟨[(0, v), (1, I64 a), (2, I64 b), (7, g2a o), (8, I64 r), (9, g2b o (I64s (shRow s a b r c))), (10, I64 c)], g2h o (I64s (shRow s a b r c)), g2c o (I64s (shRow s a b r c)), 0⟩ ∧ c + d = n) →
      ∃ ex s', D P L (.loop [0, 1, 2, 7, 8, 9, 10] c260_0) st = some (ex, s') ∧ ∃ tm ct, s' = ⟨tm, g2h o (I64s (shRow s a b r n)), ct, 0⟩ ∧ ex = .exit 2 ∧ tget tm 0 = v ∧ tget tm 1 = I64 a ∧ tget tm 2 = I64 b ∧ tget tm 7 = g2a o ∧ tget tm 8 = I64 r ∧ tget tm 9 = g2b o (I64s (shRow s a b r n)) := by
  refine loop_can (I := fun d st => ∃ c : Nat, st = ⟨[(0, v), (1, I64 a), (2, I64 b), (7, g2a o), (8, I64 r), (9, g2b o (I64s (shRow s a b r c))), (10, I64 c)], g2h o (I64s (shRow s a b r c)), g2c o (I64s (shRow s a b r c)), 0⟩ ∧ c + d = n)
    (Q := fun ex s' => ∃ tm ct, s' = ⟨tm, g2h o (I64s (shRow s a b r n)), ct, 0⟩ ∧ ex = .exit 2 ∧ tget tm 0 = v ∧ tget tm 1 = I64 a ∧ tget tm 2 = I64 b ∧ tget tm 7 = g2a o ∧ tget tm 8 = I64 r ∧ tget tm 9 = g2b o (I64s (shRow s a b r n))) ?_
  rintro d st ⟨c, rfl, hcd⟩
  by_cases hc : c < n
  · left
    have ha' : -999999999 ≤ a ∧ a ≤ 999999999 := by unfold chkFrm at ha; split at ha <;> omega
    have hb' : -999999999 ≤ b ∧ b ≤ 999999999 := by unfold chkFrm at hb; split at hb <;> omega
    have e43 := s43 h43 hv hn hn0 (by omega) (fun i hi => (sqChk_get hs i hi).1) ((c : Int) - a) ((r : Int) - b)
    unfold Ans at e43
    have hlen : (I64s (shRow s a b r c)).length = c := by simp [I64s, shRow_len]
    have hlast : I64s (shRow s a b r (c + 1)) = I64s (shRow s a b r c) ++ [I64 (cellI s ((c : Int) - a) ((r : Int) - b))] := by simp [I64s, shRow_succ]
    suffices hh : ∃ s', D P L c260_0 ⟨[(0, v), (1, I64 a), (2, I64 b), (7, g2a o), (8, I64 r), (9, g2b o (I64s (shRow s a b r c))), (10, I64 c)], g2h o (I64s (shRow s a b r c)), g2c o (I64s (shRow s a b r c)), 0⟩ = some (Ex.normal, s') ∧ compact [0, 1, 2, 7, 8, 9, 10] s' = ⟨[(0, v), (1, I64 a), (2, I64 b), (7, g2a o), (8, I64 r), (9, g2b o (I64s (shRow s a b r (c + 1)))), (10, I64 ((c + 1 : Nat) : Int))], g2h o (I64s (shRow s a b r (c + 1))), g2c o (I64s (shRow s a b r (c + 1))), 0⟩ by
      obtain ⟨s', e1, e2⟩ := hh
      exact ⟨s', d - 1, e1, by omega, c + 1, e2, by omega⟩
    rw [hlast]
    generalize I64s (shRow s a b r c) = q at hlen
    generalize cellI s ((c : Int) - a) ((r : Int) - b) = x at e43
    cases o <;> cases q
    all_goals
      try simp only [List.length_cons] at hlen
      simp only [go_sem, Nat.reduceEqDiff, Nat.reduceAdd, Nat.reduceMul, Nat.reduceLT, Nat.reduceLeDiff, Nat.mul_one, c260_0, g2a_n, g2a_c, g2b_n, g2b_nc, g2b_cc, g2h_nn, g2h_cn, g2h_nc, g2h_cc, g2c_nn, g2c_cn, g2c_nc, g2c_cc, hv.len, hv.frz, hn, show (c : Int) < n by omega, wrap64 (n := (c : Int) - a) (by omega) (by omega), wrap64 (n := (r : Int) - b) (by omega) (by omega), e43, app_nils]
      first
        | rw [app_own (ex := false) (pu := true) (sz := 1) (by simp only [go_sem, Nat.reduceEqDiff]; rfl) (by simp) (by omega) (by omega) (by decide) (by simp only [go_sem])]
          simp only [go_sem, Nat.reduceEqDiff, Nat.reduceAdd]
        | skip
      refine ⟨_, rfl, ?_⟩
      rw [show (c : Int) + 1 = ((c + 1 : Nat) : Int) from rfl, wrapN (n := c + 1) (by omega)]
      simp only [go_sem, Nat.reduceEqDiff, Nat.reduceAdd, compact0, refs_pure hv.pu, ren_pure _ hv.pu, List.length_append] <;> rfl
  · right
    have : c = n := by omega
    subst this
    simp only [go_sem, Nat.reduceEqDiff, c260_0, hv.len, hn, show ¬ (c : Int) < c by omega]
    exact ⟨_, _, rfl, by simp, _, _, rfl, rfl, by simp only [go_sem, Nat.reduceEqDiff], by simp only [go_sem, Nat.reduceEqDiff], by simp only [go_sem, Nat.reduceEqDiff], by simp only [go_sem, Nat.reduceEqDiff], by simp only [go_sem, Nat.reduceEqDiff], by simp only [go_sem, Nat.reduceEqDiff]⟩
theorem w260_1 {v : AV} {s : List (List Int)} (hv : IsS v s) {n : Nat} (hn : s.length = n) (hn0 : 0 < n) (hn1 : n ≤ 16) (hs : sqChk n (-1000) 1000 s = 0) (h43 : Has P L 43 c43) {a b : Int} (ha : chkFrm a = 0) (hb : chkFrm b = 0) :
    ∀ d st, (∃ r : Nat, compact [0, 1, 2, 7, 8] st = ⟨[(0, v), (1, I64 a), (2, I64 b), (7, g2a ((shRows s a b n r).map vrow)), (8, I64 r)], g2h ((shRows s a b n r).map vrow) [], g2c ((shRows s a b n r).map vrow) [], 0⟩ ∧ r + d = n) →
      ∃ ex s', D P L (.loop [0, 1, 2, 7, 8] c260_1) st = some (ex, s') ∧ ∃ tm ct, s' = ⟨tm, g2h ((shRows s a b n n).map vrow) [], ct, 0⟩ ∧ ex = .exit 0 ∧ tget tm 7 = g2a ((shRows s a b n n).map vrow) := by
  refine loop_can (I := fun d st => ∃ r : Nat, st = ⟨[(0, v), (1, I64 a), (2, I64 b), (7, g2a ((shRows s a b n r).map vrow)), (8, I64 r)], g2h ((shRows s a b n r).map vrow) [], g2c ((shRows s a b n r).map vrow) [], 0⟩ ∧ r + d = n)
    (Q := fun ex s' => ∃ tm ct, s' = ⟨tm, g2h ((shRows s a b n n).map vrow) [], ct, 0⟩ ∧ ex = .exit 0 ∧ tget tm 7 = g2a ((shRows s a b n n).map vrow)) ?_
  rintro d st ⟨r, rfl, hrd⟩
  by_cases hr : r < n
  · simp only [go_sem, Nat.reduceEqDiff, c260_1, hv.len, hn, show (r : Int) < n by omega]
    generalize hq : D P L (.loop [0, 1, 2, 7, 8, 9, 10] c260_0) _ = q'
    obtain ⟨ex, st, rfl, tm, ct, rfl, rfl, g0, g1, g2, g7, g8, g9⟩ := of_key hq (w260_0 (P := P) (L := L) hv hn hn0 hn1 hs h43 ha hb hr (o := (shRows s a b n r).map vrow) n) ⟨0, by
      generalize (shRows s a b n r).map vrow = o
      simp only [shRow, List.range_zero, List.map_nil, I64s]
      cases o <;> simp only [go_sem, Nat.reduceEqDiff, Nat.reduceAdd, compact0, g2a_n, g2a_c, g2b_n, g2h_nn, g2h_cn, g2c_nn, g2c_cn, refs_pure hv.pu, ren_pure _ hv.pu] <;> rfl, by omega⟩
    left
    have hlen : ((shRows s a b n r).map vrow).length = r := by simp [shRows_len]
    have hrow : (I64s (shRow s a b r n)).length = n := by simp [I64s, shRow_len]
    have hvr : vrow (shRow s a b r n) = .vsl false n (I64s (shRow s a b r n)) := by simp [vrow, I64s, shRow_len]
    suffices hh : ∃ s', _ = some (Ex.normal, s') ∧ compact [0, 1, 2, 7, 8] s' = ⟨[(0, v), (1, I64 a), (2, I64 b), (7, g2a ((shRows s a b n (r + 1)).map vrow)), (8, I64 ((r + 1 : Nat) : Int))], g2h ((shRows s a b n (r + 1)).map vrow) [], g2c ((shRows s a b n (r + 1)).map vrow) [], 0⟩ by
      obtain ⟨s', e1, e2⟩ := hh
      exact ⟨s', d - 1, e1, by omega, r + 1, e2, by omega⟩
    rw [shRows_succ, List.map_append, List.map_cons, List.map_nil, hvr]
    generalize hqq : I64s (shRow s a b r n) = q at hrow g9
    generalize hoo : (shRows s a b n r).map vrow = o at hlen g7 g9
    cases o <;> cases q
    · simp at hrow; omega
    · simp only [g2a_n, g2b_nc] at g7 g9
      try simp only [List.length_cons] at hlen hrow
      simp only [go_sem, Nat.reduceEqDiff, Nat.reduceAdd, Nat.reduceMul, Nat.reduceLT, Nat.reduceLeDiff, Nat.mul_one, g2a_c, g2h_cn, g2h_nc, g2c_cn, compact0, g0, g1, g2, g7, g8, g9, refs_pure hv.pu, ren_pure _ hv.pu, app_nils, hrow, frzO_all]
      refine ⟨_, rfl, ?_⟩
      rw [show (r : Int) + 1 = ((r + 1 : Nat) : Int) from rfl, wrapN (n := r + 1) (by omega)]
      simp only [go_sem, Nat.reduceEqDiff, Nat.reduceAdd, compact0, refs_pure hv.pu, ren_pure _ hv.pu] <;> rfl
    · simp at hrow; omega
    · simp only [g2a_c, g2b_cc] at g7 g9
      try simp only [List.length_cons] at hlen hrow
      simp only [go_sem, Nat.reduceEqDiff, Nat.reduceAdd, Nat.reduceLT, Nat.reduceLeDiff, Nat.mul_one, g2a_c, g2h_cn, g2h_cc, g2c_cn, compact0, g0, g1, g2, g7, g8, g9, refs_pure hv.pu, ren_pure _ hv.pu, hrow, frzO_all]
      rw [app_own (ex := false) (pu := true) (sz := 1) (by simp only [go_sem, Nat.reduceEqDiff]; rfl) (by simp) (by omega) (by omega) (by decide) (by simp only [go_sem])]
      simp only [go_sem, Nat.reduceEqDiff, Nat.reduceAdd]
      refine ⟨_, rfl, ?_⟩
      rw [show (r : Int) + 1 = ((r + 1 : Nat) : Int) from rfl, wrapN (n := r + 1) (by omega)]
      simp only [go_sem, Nat.reduceEqDiff, Nat.reduceAdd, compact0, refs_pure hv.pu, ren_pure _ hv.pu, List.length_append] <;> rfl
  · right
    have : r = n := by omega
    subst this
    simp only [go_sem, Nat.reduceEqDiff, c260_1, hv.len, hn, show ¬ (r : Int) < r by omega]
    exact ⟨_, _, rfl, by simp, _, _, rfl, rfl, by simp only [go_sem, Nat.reduceEqDiff]⟩
theorem a260 (h : RsP P L) {v : AV} {s : List (List Int)} (hv : IsS v s) (hz : chkScreen s = 0) {a b : Int} (ha : chkFrm a = 0) (hb : chkFrm b = 0) :
    ∃ r, Ans P L 260 [v, I64 a, I64 b] r ∧ IsS (shut r) (tbl s.length (fun c r => cellI s ((c : Int) - a) ((r : Int) - b))) := by
  obtain ⟨a1, a2, a3⟩ := chkScreen_ok hz
  refine ⟨.fsl false 1 s.length ((shRows s a b s.length s.length).map vrow), ?_, ?_⟩
  · unfold Ans; rw [call_eq h.h260]
    simp only [go_sem, c260]
    generalize hq : D P L (.loop [0, 1, 2, 7, 8] c260_1) _ = q'
    obtain ⟨ex, st, rfl, tm, ct, rfl, rfl, g7⟩ := of_key hq (w260_1 (P := P) (L := L) hv rfl a1 a2 a3 h.h43 ha hb s.length) ⟨0, by
      simp only [shRows, List.range_zero, List.map_nil]
      simp only [go_sem, Nat.reduceEqDiff, compact0, g2a_n, g2h_nn, g2c_nn, refs_pure hv.pu, ren_pure _ hv.pu] <;> rfl, by omega⟩
    have hlen : ((shRows s a b s.length s.length).map vrow).length = s.length := by simp [shRows_len]
    generalize (shRows s a b s.length s.length).map vrow = o at hlen g7
    cases o with
    | nil => simp at hlen; omega
    | cons x o =>
      simp only [g2a_c] at g7
      simp only [List.length_cons] at hlen
      simp only [go_sem, Nat.reduceAdd, compact0, g7, g2h_cn, hlen]
      exact result_own (hget_hit _ _ _) (by simpa using hlen) (by decide)
  · have := rows_S false (shRows s a b s.length s.length)
    rw [shRows_len] at this
    exact this
end
end VE
end
section
set_option maxRecDepth 100000
namespace VE
open Go (IntKind)
theorem eqL_refl : ∀ l : List Nat, eqL l l = true
  | [] => rfl
  | a :: l => by simp only [eqL, Nat.beq_refl, eqL_refl l, Bool.and_self]
section
variable {P : Prog} {L : Lib}
theorem a258 (h : RsP P L) (n : Int) : Ans P L 258 [I64 n] (I64 (chkFrm n)) := by
  have e := s30 h.h30 n (-999999999) 999999999
  unfold Ans at e ⊢; rw [call_eq h.h258]
  simp only [go_sem, Nat.reduceEqDiff, c258, e, chkFrm]
theorem a284 (h : RsP P L) {n : Int} {d : Nat} (hl : (TT n d).length ≤ 1000000) : Ans P L 284 [.str (TT n d)] (.str (intS n)) := by
  obtain ⟨s, hs⟩ : ∃ s, s = TT n d := ⟨_, rfl⟩
  have hT : s = intS n ++ restT d := by rw [hs]; rfl
  have hsl : slashN s = (intS n).length := by rw [hT, slashN_intS, rest_slash]; rfl
  have e := a272 h.h272 (s := s) (by rw [hs]; omega)
  rw [hsl] at e
  have c1 : cutR s (some 0) (some (intS n).length) = some (.str (intS n)) := by
    rw [cutR_ok (by omega) (by rw [hT]; simp), List.drop_zero, hT, List.take_left]
  rw [← hs]
  unfold Ans at e ⊢; rw [call_eq h.h284]
  simp only [go_sem, Nat.reduceEqDiff, c284, e, cut_str, bound_n, bound_s, c1]
theorem a285 (h : RsP P L) {n : Int} (hl : (natS n.natAbs).length ≤ 600) : Ans P L 285 [.str (intS n)] (.str (natS n.natAbs)) := by
  have hT : intS n = TT n 1 := by unfold TT; simp
  have e := a262 h.toRa (n := n) (d := 1) ⟨fun _ => rfl, by decide, by omega, by decide⟩
  rw [← hT] at e
  unfold Ans at e ⊢; rw [call_eq h.h285]
  by_cases h0 : n < 0
  · have es : sgn n = -1 := by unfold sgn; rw [if_pos h0]
    rw [es, intS_neg h0] at e
    rw [intS_neg h0]
    have hc : cutR (45 :: natS n.natAbs) (some 1) (some ((natS n.natAbs).length + 1)) = some (.str (natS n.natAbs)) := by rw [cutR_ok (s := 45 :: natS n.natAbs) (l := 1) (h := (natS n.natAbs).length + 1) (by omega) (by simp)]; simp
    simp only [go_sem, Nat.reduceEqDiff, c285, e, show (-1 : Int) < 0 by decide, cut_str, bound_n, bound_s, hc]
  · have es : ¬ sgn n < 0 := by unfold sgn; rw [if_neg h0]; split <;> decide
    have e2 : intS n = natS n.natAbs := by rw [← sign_text, if_neg h0]; rfl
    rw [e2] at e ⊢
    simp only [go_sem, Nat.reduceEqDiff, c285, e, es]
theorem a286 (h : RsP P L) {n : Int} {d : Nat} (hl : (TT n d).length ≤ 1000000) (hd : 0 < d) : Ans P L 286 [.str (TT n d)] (.str (natS d)) := by
  obtain ⟨s, hs⟩ : ∃ s, s = TT n d := ⟨_, rfl⟩
  have hT : s = intS n ++ restT d := by rw [hs]; rfl
  have hsl : slashN s = (intS n).length := by rw [hT, slashN_intS, rest_slash]; rfl
  have e := a272 h.h272 (s := s) (by rw [hs]; omega)
  rw [hsl] at e
  rw [← hs]
  unfold Ans at e ⊢; rw [call_eq h.h286]
  by_cases h1 : d = 1
  · subst h1
    have hlen : s.length = (intS n).length := by rw [hT]; simp [restT]
    simp only [go_sem, Nat.reduceEqDiff, c286, e, hlen, decide_true]
    rfl
  · have hr : restT d = 47 :: natS d := if_neg h1
    have hlen : s.length = (intS n).length + (natS d).length + 1 := by rw [hT, hr]; simp; omega
    have c2 : cutR s (some ((intS n).length + 1)) (some s.length) = some (.str (natS d)) := by
      rw [cutR_ok (by omega) (Nat.le_refl _), List.take_length, hT, hr, show intS n ++ 47 :: natS d = (intS n ++ [47]) ++ natS d by simp, show (intS n).length + 1 = (intS n ++ [47]).length by simp, List.drop_left]
    rw [← hs] at hl
    simp only [go_sem, Nat.reduceEqDiff, c286, e, show ¬ ((intS n).length : Int) = (s.length : Int) by omega, wrapN (n := (intS n).length + 1) (by omega), show ((intS n).length : Int) + 1 = (((intS n).length + 1 : Nat) : Int) from rfl, cut_str, bound_n, bound_s, c2]
theorem a269 (h : RsP P L) {n : Int} {d : Nat} (hn : (natS n.natAbs).length ≤ 600) (hd : (natS d).length ≤ 600) (h0 : 0 < d) : Ans P L 269 [.str (TT n d)] (I64 0) := by
  have hl : (TT n d).length ≤ 1000000 := by have := TT_len' n d; omega
  have e1 := a284 h (n := n) (d := d) hl
  have e2 := a285 h hn
  have e3 := a286 h (n := n) hl h0
  unfold Ans at e1 e2 e3 ⊢; rw [call_eq h.h269]
  simp only [go_sem, Nat.reduceEqDiff, c269, e1, e2, e3, show ¬ (600 : Int) < ((natS n.natAbs).length : Int) by omega, show ¬ (600 : Int) < ((natS d).length : Int) by omega]
theorem a255e (h : Has P L 255 c255) {e : Int} (he : e ≠ 0) : Ans P L 255 [.str [], I64 e, I64 e, .str []] (.bool true) := by
  unfold Ans; rw [call_eq h]
  simp only [go_sem, Nat.reduceEqDiff, c255, he, str_eql, eqL_refl, decide_true]
theorem a255s (h : Has P L 255 c255) (hr : RsP P L) {a b : Int} (hb : 0 < b ∧ b < 18446744073709551616) (ha : a.natAbs < 18446744073709551616) : Ans P L 255 [.str (ratT a b), I64 0, I64 0, .str (ratT a b)] (.bool true) := by
  have h1 := rnum_abs a b
  have h2 := rden_abs a b
  have h3 := rden_pos (a := a) hb.1
  have e := a269 hr (n := rnum a b) (d := (rden a b).toNat) (by have := natS_len20 (n := (rnum a b).natAbs) (by omega); omega) (by have := natS_len20 (n := (rden a b).toNat) (by omega); omega) (by omega)
  rw [← ratT_TT hb.1] at e
  unfold Ans at e ⊢; rw [call_eq h]
  simp only [go_sem, Nat.reduceEqDiff, c255, e, str_eql, eqL_refl, decide_true, Bool.not_true]
structure SsP (P : Prog) (L : Lib) : Prop extends StP P L, RsP P L where
  h253 : Has P L 253 c253
  h255 : Has P L 255 c255
  h2 : Has P L 2 c2
  h3 : Has P L 3 c3
  h7 : Has P L 7 c7
  h11 : Has P L 11 c11
  h21 : Has P L 21 c21
  h42 : Has P L 42 c42
  h59 : Has P L 59 c59
theorem rowsShort_get' : ∀ {s : List (List Int)}, rowsShort s = true → ∀ i (hi : i < s.length), s[i].length ≤ 18
  | [], _, i, hi => absurd hi (Nat.not_lt_zero _)
  | r :: s, h, i, hi => by
    simp only [rowsShort] at h
    split at h
    · cases h
    · cases i with
      | zero => simp only [List.getElem_cons_zero]; omega
      | succ i => simp only [List.getElem_cons_succ]; exact rowsShort_get' h i (by simpa using hi)
theorem shortS_ok' {n : Nat} {s : List (List Int)} (h : shortS n s = true) : s.length ≤ 18 ∧ ∀ i (hi : i < s.length), s[i].length ≤ 18 := by
  unfold shortS at h
  split at h
  · cases h
  · exact ⟨by omega, rowsShort_get' h⟩
theorem first3 {c a b : Int} (h : c ≠ 0) : firstI [c, a, b] = c := by simp [firstI, h]
theorem first3' (a b : Int) : firstI [0, a, b] = firstI [a, b] := by simp [firstI]
theorem law_statistics (h : SsP P L) (hA : callPure P L (D P L) 1 [] = some (.bool true)) {v : AV} {s : List (List Int)} (hv : IsS v s) (a b : Int) :
    Ans P L 253 [v, I64 a, I64 b] (.bool true) := by
  have e2 : callPure P L (D P L) 2 [v, .int .i64 8] = some (.bool (shortS 8 s)) := s2 h.h2 hv (n := 8)
  unfold Ans
  rw [call_eq h.h253]
  cases c1 : shortS 8 s with
  | false => simp only [go_sem, Nat.reduceEqDiff, c253, hv.frz, hA, e2, c1]
  | true =>
    obtain ⟨l1, l2⟩ := shortS_ok' c1
    have l2' : ∀ i (hi : i < s.length), s[i].length ≤ 1000000 := fun i hi => by have := l2 i hi; omega
    have e3 := s3 h.h3 h.h30 hv
    have e16 := n16 h.toStP hv (by omega) l2'
    have e17 := n17 h.toStP hv (by omega) l2'
    have e18 := n18 h.toStP hv (by omega) l2' a b
    obtain ⟨e20a, e20b⟩ := s20 h.toShP hv (by omega) l2' a b
    have ea := a258 h.toRsP a
    have eb := a258 h.toRsP b
    unfold Ans at e3 e16 e17 e18 ea eb
    by_cases hz : chkScreen s = 0
    · obtain ⟨a1, a2, a3⟩ := chkScreen_ok hz
      have ba := area_bound a1 a2
      rw [if_pos hz, hz] at e16 e17
      rw [hz] at e3
      rw [hz, first3'] at e18 e20a e20b
      have m1 := a256 h.toRsP hv hz
      have m2 := a257 h.toRsP hv hz
      have hb : ∀ c r, -1000 ≤ kv s r c ∧ kv s r c ≤ 1000 := fun c r => kv_bound a3 (by decide) r c
      have b1 := sq2_bound a2 (b := 1000) (by decide) (by decide) (val := fun c r => kv s r c) (fun c r _ _ => hb c r)
      have b2 := sq2_bound a2 (b := 1000000) (by decide) (by decide) (val := fun c r => kv s r c * kv s r c) (fun c r _ _ => mul_bound (a := 1000) (b := 1000) (hb c r) (hb c r))
      rw [show sq2 s.length (fun c r => kv s r c) = sum1 s from rfl] at b1
      rw [show sq2 s.length (fun c r => kv s r c * kv s r c) = sum2 s from rfl] at b2
      have n1 := a255s h.h255 h.toRsP (a := sum1 s) (b := area s) (by omega) (by omega)
      have q1 : (vnum s).natAbs < 18446744073709551616 ∧ 0 < vden s ∧ vden s < 18446744073709551616 := by
        have k1 : (sum1 s).natAbs ≤ 256000 := by omega
        have k2 : (sum2 s).natAbs ≤ 256000000 := by omega
        have k3 : (area s).natAbs ≤ 256 := by omega
        have m11 : (sum1 s * sum1 s).natAbs ≤ 65536000000 := by rw [Int.natAbs_mul]; exact Nat.mul_le_mul k1 k1
        have m33 : (area s * area s).natAbs ≤ 65536 := by rw [Int.natAbs_mul]; exact Nat.mul_le_mul k3 k3
        have x1 : (sum2 s * (area s * area s)).natAbs ≤ 256000000 * 65536 := by rw [Int.natAbs_mul]; exact Nat.mul_le_mul k2 m33
        have x2 : (sum1 s * sum1 s * area s).natAbs ≤ 65536000000 * 256 := by rw [Int.natAbs_mul]; exact Nat.mul_le_mul m11 k3
        have x3 : (vden s).natAbs ≤ 256 * 65536 := by unfold vden; rw [Int.natAbs_mul]; exact Nat.mul_le_mul k3 m33
        have x4 : 0 < vden s := Int.mul_pos ba.1 (Int.mul_pos ba.1 ba.1)
        have := Int.natAbs_sub_le (sum2 s * (area s * area s)) (sum1 s * sum1 s * area s)
        refine ⟨?_, x4, by omega⟩
        unfold vnum
        omega
      have n2 := a255s h.h255 h.toRsP (a := vnum s) (b := vden s) q1.2 q1.1
      have e11 := s11 h.h11 h.h42 (isI_vsl true [chkFrm a, chkFrm b]) (by simp)
      simp only [List.map_cons, List.map_nil, List.length_cons, List.length_nil, Nat.zero_add, Nat.reduceAdd] at e11
      unfold Ans at m1 m2 n1 n2 e11
      by_cases hf : firstI [chkFrm a, chkFrm b] = 0
      · have ha0 : chkFrm a = 0 := by
          simp only [firstI] at hf
          split at hf
          · assumption
          · assumption
        have hb0 : chkFrm b = 0 := by
          simp only [firstI, ha0, if_true] at hf
          split at hf
          · assumption
          · assumption
        rw [if_pos hf, hf] at e18
        have e20 := e20b hf
        obtain ⟨r, m4, hr⟩ := a260 h.toRsP hv hz ha0 hb0
        have m3 := a259 h.toRsP hv hz ha0 hb0
        have bd := sq2_bound a2 (b := 4000000) (by decide) (by decide) (val := sdiff s a b) (fun c r _ _ => sdiff_bound a3 a b c r)
        rw [show sq2 s.length (sdiff s a b) = sumD s a b from rfl] at bd
        have n3 := a255s h.h255 h.toRsP (a := sumD s a b) (b := area s) (by omega) (by omega)
        have hT := tblV_S (n := s.length) (fun c r => cellI s ((c : Int) - a) ((r : Int) - b))
        have e7 := s7s h.h7 h.h21 h.h59 hT hr (by rw [tbl_len]; omega) (fun i hi => by rw [tbl_len] at hi; rw [tbl_row hi]; simp; omega)
        rw [hf] at e11
        unfold Ans at e20 m3 m4 n3 e7
        generalize tblV (fun c r => I64 (cellI s ((c : Int) - a) ((r : Int) - b))) s.length = W at *
        simp only [go_sem, Nat.reduceEqDiff, Nat.reduceAdd, Nat.reduceLT, Nat.reduceLeDiff, Nat.mul_one, c253, hv.frz, hA, e2, c1, e16, e17, e18, e20, e3, m1, m2, n1, n2, ea, eb, e11, m3, m4, n3, hT.frz, hT.shut1, hr.frz, e7, decide_true, Bool.not_true]
      · rw [if_neg hf] at e18
        have e20 := e20a hf
        have n3 := a255e h.h255 hf
        have e7 := s7e h.h7 hf
        unfold Ans at e20 n3 e7
        simp only [go_sem, Nat.reduceEqDiff, Nat.reduceAdd, Nat.reduceLT, Nat.reduceLeDiff, Nat.mul_one, c253, hv.frz, hA, e2, c1, e16, e17, e18, e20, e3, m1, m2, n1, n2, ea, eb, e11, n3, e7, hf, decide_true, decide_false, Bool.not_true, Bool.not_false]
    · rw [if_neg hz] at e16 e17
      rw [first3 hz] at e18 e20a
      rw [if_neg hz] at e18
      have e20 := e20a hz
      have n1 := a255e h.h255 hz
      have e7 := s7e h.h7 hz
      unfold Ans at e20 n1 e7
      simp only [go_sem, Nat.reduceEqDiff, c253, hv.frz, hA, e2, c1, e16, e17, e18, e20, e3, n1, e7, hz]
end
end VE
end
