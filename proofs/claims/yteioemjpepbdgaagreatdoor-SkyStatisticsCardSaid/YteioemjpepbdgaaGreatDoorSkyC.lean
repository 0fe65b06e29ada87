import Derived.Test.YteioemjpepbdgaaGreatDoorSkyB
import Derived.Test.YteioemjpepbdgaaGreatDoorBuilt
set_option linter.all false
section
set_option maxRecDepth 100000
namespace VE
open Go (IntKind)
section
variable {P : Prog} {L : Lib}
def I64s (l : List Int) : List AV := l.map I64
end
end VE
end
section
set_option maxRecDepth 100000
namespace VE
open Go (IntKind)
section
variable {P : Prog} {L : Lib}
end
end VE
end
section
set_option maxRecDepth 100000
namespace VE
open Go (IntKind)
section
variable {P : Prog} {L : Lib}
theorem s40_pure (h : BuT P L) {n : Nat} (hn : 0 < n) (hn1 : n ≤ 900) {g : Nat} {cap : List AV} {val : Nat → Nat → AV} (hc : pureL cap = true) (h1 : ∀ c r, oneCell (val c r) = true) (h2 : ∀ c r, pureAV (val c r) = true) (h3 : ∀ c r, shut (val c r) = val c r)
    (hg : ∀ c r, c < n → r < n → Ans P L g (I64 c :: I64 r :: cap) (val c r)) : Ans P L 40 [I64 n, .fn (.f g) [] cap] (tblV val n) := by
  have hpf : pureAV (.fn (.f g) [] cap) = true := by simp [pureAV, pureL, hc]
  have hf : CellFn P L 0 n (.fn (.f g) [] cap) val (fun _ => []) := by
    refine ⟨by omega, fun _ => ⟨below_pure hpf, by rw [refs_pure hpf]; simp, rfl, trivial, fun _ => by simp [oldRefs]⟩, h1, h2, fun c r hc' hr mine ct _ _ _ _ => ?_⟩
    have hp : pureL (I64 c :: I64 r :: cap) = true := by simp [pureL, pureAV, hc]
    have := hg c r hc' hr
    unfold Ans at this
    simp only [evCall, List.nil_append, List.cons_append, hp, cond_true, this, h3, List.append_nil]
  obtain ⟨tm, ct, e, h4⟩ := built_run h hn hf (fun p hp => by simp at hp)
  unfold Ans
  rw [call_eq h.h40, bind2, e, resC_r]
  have : resultOf ⟨tm, bNew 0 n (.fn (.f g) [] cap) val [], ct, 0⟩ c40.res = some (.osl (0 + 2) 0 n) := by
    show resultOf _ [.t 4] = _
    rw [res1, res_t, h4]
  rw [this, resV_s]
  exact built_res hn hn1
theorem cells_gen (h : BuT P L) {l B n : Nat} (hl : l < B) (hn : n ≤ 1000) {H : Nat → Nat → Hp} (hw : ∀ r, r < n → H r n = H (r + 1) 0) (hb : ∀ r c, belowH B B (H r c)) (hr : ∀ r c, (oldRefs B (H r c)).length ≤ 5000)
    (hround : ∀ c r, c < n → r < n → evRound (D P L) (H r c) B l [I64 c, I64 r] = some (.bool true, H r (c + 1), B)) :
    ∃ tm, D P L c133.body ⟨[(0, .fn (.y l) [] []), (1, .vptr [.int .i64 n])], H 0 0, B, B⟩ = some (.normal, ⟨tm, H n 0, B, B⟩) := by
  have hcan : ∀ (live : List Nat) (tm : Env) (r c ct : Nat), belowE B (keep tm live) → (refsE (keep tm live)).length ≤ 1000 → compact live ⟨tm, H r c, ct, B⟩ = ⟨keep tm live, H r c, B, B⟩ := fun live tm r c ct h1 h2 =>
    compact_old h1 (hb r c) (by have := hr r c; omega)
  have hcall : ∀ (xs : List AV) (hp : Hp) (ct : Nat), evCall P L (D P L) hp ct .heap (.fn (.y l) [] []) xs = evRound (D P L) hp ct l xs := fun _ _ _ => rfl
  have inner : ∀ r, r < n → ∀ d st, (∃ c : Nat, compact [0, 1, 3, 5, 6, 9, 10] st = ⟨[(0, .fn (.y l) [] []), (1, .vptr [.int .i64 n]), (3, I64 r), (5, I64 n), (6, I64 r), (9, I64 n), (10, I64 c)], H r c, B, B⟩ ∧ c + d = n) →
      ∃ ex s', D P L (.loop [0, 1, 3, 5, 6, 9, 10] c133_0) st = some (ex, s') ∧ ∃ tm ct, s' = ⟨tm, H r n, ct, B⟩ ∧ ex = .exit 2 ∧ tget tm 0 = .fn (.y l) [] [] ∧ tget tm 1 = .vptr [.int .i64 n] ∧ tget tm 5 = I64 n ∧ tget tm 6 = I64 r := by
    intro r hr'
    refine loop_can (I := fun d st => ∃ c : Nat, st = ⟨[(0, .fn (.y l) [] []), (1, .vptr [.int .i64 n]), (3, I64 r), (5, I64 n), (6, I64 r), (9, I64 n), (10, I64 c)], H r c, B, B⟩ ∧ c + d = n)
      (Q := fun ex s' => ∃ tm ct, s' = ⟨tm, H r n, ct, B⟩ ∧ ex = .exit 2 ∧ tget tm 0 = .fn (.y l) [] [] ∧ tget tm 1 = .vptr [.int .i64 n] ∧ tget tm 5 = I64 n ∧ tget tm 6 = I64 r) ?_
    rintro d st ⟨c, rfl, hcd⟩
    by_cases hc : c < n
    · left
      simp only [go_sem, Nat.reduceEqDiff, c133_0, show (c : Int) < n by omega, hcall, hround c r hc hr', show (c : Int) + 1 = ((c + 1 : Nat) : Int) from rfl, wrapN (n := c + 1) (by omega)]
      refine ⟨_, d - 1, rfl, by omega, c + 1, ?_, by omega⟩
      rw [hcan]
      · simp only [go_sem, Nat.reduceEqDiff]
      · simp only [go_sem, Nat.reduceEqDiff]
        exact ⟨⟨hl, rfl, rfl⟩, trivial, trivial, trivial, trivial, trivial, trivial, trivial⟩
      · simp only [go_sem, Nat.reduceEqDiff, Nat.reduceAdd, Nat.reduceLeDiff]
    · right
      have : c = n := by omega
      subst this
      simp only [go_sem, Nat.reduceEqDiff, c133_0, show ¬ (c : Int) < c by omega]
      refine ⟨_, _, rfl, by simp, _, _, rfl, rfl, ?_⟩
      simp only [go_sem, Nat.reduceEqDiff]
      simp
  have outer : ∀ d st, (∃ r : Nat, compact [0, 1, 5, 6] st = ⟨[(0, .fn (.y l) [] []), (1, .vptr [.int .i64 n]), (5, I64 n), (6, I64 r)], H r 0, B, B⟩ ∧ r + d = n) →
      ∃ ex s', D P L (.loop [0, 1, 5, 6] c133_1) st = some (ex, s') ∧ ∃ tm ct, s' = ⟨tm, H n 0, ct, B⟩ ∧ ex = .exit 0 := by
    refine loop_can (I := fun d st => ∃ r : Nat, st = ⟨[(0, .fn (.y l) [] []), (1, .vptr [.int .i64 n]), (5, I64 n), (6, I64 r)], H r 0, B, B⟩ ∧ r + d = n)
      (Q := fun ex s' => ∃ tm ct, s' = ⟨tm, H n 0, ct, B⟩ ∧ ex = .exit 0) ?_
    rintro d st ⟨r, rfl, hrd⟩
    by_cases hr' : r < n
    · left
      simp only [go_sem, Nat.reduceEqDiff, c133_1, show (r : Int) < n by omega]
      generalize hq : D P L (.loop [0, 1, 3, 5, 6, 9, 10] c133_0) _ = q
      obtain ⟨ex, st, rfl, tm, ct, rfl, rfl, g0, g1, g5, g6⟩ := of_key hq (inner r hr' n) ⟨0, by
        rw [hcan]
        · simp only [go_sem, Nat.reduceEqDiff]
          rfl
        · simp only [go_sem, Nat.reduceEqDiff]
          exact ⟨⟨hl, rfl, rfl⟩, trivial, trivial, trivial, trivial, trivial, trivial, trivial⟩
        · simp only [go_sem, Nat.reduceEqDiff, Nat.reduceAdd, Nat.reduceLeDiff], by omega⟩
      rw [hw r hr', bindB_h, bindN_n, D_kp, hcan]
      · simp only [go_sem, Nat.reduceEqDiff, g0, g1, g5, g6, show (r : Int) + 1 = ((r + 1 : Nat) : Int) from rfl, wrapN (n := r + 1) (by omega)]
        refine ⟨_, d - 1, rfl, by omega, r + 1, ?_, by omega⟩
        rw [hcan]
        · simp only [go_sem, Nat.reduceEqDiff]
        · simp only [go_sem, Nat.reduceEqDiff]
          exact ⟨⟨hl, rfl, rfl⟩, trivial, trivial, trivial, trivial⟩
        · simp only [go_sem, Nat.reduceEqDiff, Nat.reduceAdd, Nat.reduceLeDiff]
      · simp only [go_sem, g0, g1, g5, g6]
        exact ⟨⟨hl, rfl, rfl⟩, trivial, trivial, trivial, trivial⟩
      · simp only [go_sem, Nat.reduceAdd, Nat.reduceLeDiff, g0, g1, g5, g6]
    · right
      have : r = n := by omega
      subst this
      simp only [go_sem, Nat.reduceEqDiff, c133_1, show ¬ (r : Int) < r by omega]
      exact ⟨_, _, rfl, by simp, _, _, rfl, rfl⟩
  simp only [go_sem, Nat.reduceEqDiff, c133]
  generalize hq : D P L (.loop [0, 1, 5, 6] c133_1) _ = q
  obtain ⟨ex, st, rfl, tm, ct, rfl, rfl⟩ := of_key hq (outer n) ⟨0, by
    rw [hcan]
    · simp only [go_sem, Nat.reduceEqDiff]
      rfl
    · simp only [go_sem, Nat.reduceEqDiff]
      exact ⟨⟨hl, rfl, rfl⟩, trivial, trivial, trivial, trivial⟩
    · simp only [go_sem, Nat.reduceEqDiff, Nat.reduceAdd, Nat.reduceLeDiff], by omega⟩
  simp only [go_sem]
  rw [hcan]
  · exact ⟨_, rfl⟩
  · simp only [go_sem]
    trivial
  · simp only [go_sem, Nat.reduceLeDiff]
structure SmP (P : Prog) (L : Lib) : Prop extends BuT P L, Sq P L where
  h41 : Has P L 41 c41
  h97 : Has P L 97 c97
  h134 : Has P L 134 c134
end
end VE
end
section
set_option maxRecDepth 100000
namespace VE
open Go (IntKind)
section
variable {P : Prog} {L : Lib}
theorem chkScreen_ok {s : List (List Int)} (h : chkScreen s = 0) : 0 < s.length ∧ s.length ≤ 16 ∧ sqChk s.length (-1000) 1000 s = 0 := by
  unfold chkScreen at h
  split at h
  · simp at h
  · split at h
    · simp at h
    · exact ⟨by omega, by omega, h⟩
theorem tblV_S {n : Nat} (f : Nat → Nat → Int) : IsS (tblV (fun c r => I64 (f c r)) n) (tbl n f) := by
  have h1 : tblV (fun c r => I64 (f c r)) n = .vsl true n ((List.range n).map fun r => .vsl true n (((List.range n).map fun c => f c r).map I64)) := by
    simp only [tblV, List.map_map]
    rfl
  have hlen : ((List.range n).map fun r => AV.vsl true n (((List.range n).map fun c => f c r).map I64)).length = n := by simp
  refine ⟨(List.range n).map fun r => .vsl true n (((List.range n).map fun c => f c r).map I64), ?_, ?_⟩
  · rw [h1]
    have := isL_vsl true ((List.range n).map fun r => AV.vsl true n (((List.range n).map fun c => f c r).map I64))
    rwa [hlen] at this
  · have : ∀ m : List Nat, All2 IsI (m.map fun r => AV.vsl true n (((List.range n).map fun c => f c r).map I64)) (m.map fun r => (List.range n).map fun c => f c r) := by
      intro m
      induction m with
      | nil => trivial
      | cons r m ih =>
        refine ⟨?_, ih⟩
        have := isI_vsl true ((List.range n).map fun c => f c r)
        rwa [List.length_map, List.length_range] at this
    exact this _
end
end VE
end
section
set_option maxRecDepth 100000
namespace VE
open Go (IntKind)
section
variable {P : Prog} {L : Lib}
structure ShP (P : Prog) (L : Lib) : Prop extends SmP P L where
  h20 : Has P L 20 c20
  h51 : Has P L 51 c51
  h58 : Has P L 58 c58
  h34 : Has P L 34 c34
def chkFrm (n : Int) : Int := if n < -999999999 ∨ 999999999 < n then 3 else 0
theorem s51 (h : Has P L 51 c51) (h34 : Has P L 34 c34) (h31 : Has P L 31 c31) (n : Int) : Ans P L 51 [I64 n] (I64 (chkFrm n)) := by
  unfold Ans; rw [call_eq h]
  simp only [go_sem, Nat.reduceEqDiff, c51, s34 h34 h31, chkFrm]
theorem s58 (h : ShP P L) {v : AV} {s : List (List Int)} (hv : IsS v s) {n : Nat} (hn : s.length = n) (h0 : 0 < n) (hl : n ≤ 16) (hr : ∀ i (hi : i < s.length), s[i].length = n) {a b : Int} (ha : chkFrm a = 0) (hb : chkFrm b = 0) {c r : Nat} (hc : c < n) (hr' : r < n) :
    Ans P L 58 [I64 c, I64 r, .vptr [v], .vptr [I64 a], .vptr [I64 b]] (I64 (cellI s (c - a) (r - b))) := by
  have ha : -999999999 ≤ a ∧ a ≤ 999999999 := by unfold chkFrm at ha; split at ha <;> omega
  have hb : -999999999 ≤ b ∧ b ≤ 999999999 := by unfold chkFrm at hb; split at hb <;> omega
  have e97 := s97 h.h97 h.h134 hv hn h0 (by omega) hr (c - a) (r - b)
  unfold Ans at e97 ⊢; rw [call_eq h.h58]
  simp only [go_sem, Nat.reduceEqDiff, c58, hv.frz, wrap64 (n := (c : Int) - a) (by omega) (by omega), wrap64 (n := (r : Int) - b) (by omega) (by omega), e97]
theorem s20 (h : ShP P L) {v : AV} {s : List (List Int)} (hv : IsS v s) (hl : s.length ≤ 1000000) (hr : ∀ i (hi : i < s.length), s[i].length ≤ 1000000) (a b : Int) :
    (firstI [chkScreen s, chkFrm a, chkFrm b] ≠ 0 → Ans P L 20 [v, I64 a, I64 b] (.tup [.nils, I64 (firstI [chkScreen s, chkFrm a, chkFrm b])])) ∧
    (firstI [chkScreen s, chkFrm a, chkFrm b] = 0 → Ans P L 20 [v, I64 a, I64 b] (.tup [tblV (fun c r => I64 (cellI s (c - a) (r - b))) s.length, I64 0])) := by
  have e4 := s4 h.toSq hv hl hr
  have hf3 : ∀ a b c : Int, Ans P L 33 [.vsl true 3 [.int .i64 a, .int .i64 b, .int .i64 c]] (I64 (firstI [a, b, c])) := fun a b c => s33 h.h33 (isI_vsl true [a, b, c]) (by simp)
  have e51 := fun n => s51 h.h51 h.h34 h.h31 n
  unfold Ans at e4 hf3 e51 ⊢
  constructor
  · intro hne
    rw [call_eq h.h20]
    simp only [go_sem, Nat.reduceEqDiff, Nat.reduceAdd, Nat.reduceLT, Nat.reduceLeDiff, Nat.mul_one, c20, hv.pu, hv.frz, hv.one, hv.cells, e4, e51, hf3, hne]
  · intro h0
    have hs0 : chkScreen s = 0 := by
      simp only [firstI] at h0
      split at h0
      · assumption
      · assumption
    have ha0 : chkFrm a = 0 := by
      simp only [firstI, hs0, if_true] at h0
      split at h0
      · assumption
      · assumption
    have hb0 : chkFrm b = 0 := by
      simp only [firstI, hs0, ha0, if_true] at h0
      split at h0
      · assumption
      · assumption
    obtain ⟨a1, a2, a3⟩ := chkScreen_ok hs0
    have e40 := s40_pure h.toBuT a1 (by omega) (g := 58) (cap := [.vptr [v], .vptr [I64 a], .vptr [I64 b]]) (val := fun c r => I64 (cellI s (c - a) (r - b))) (by simp [pureL, pureAV]) (fun _ _ => rfl) (fun _ _ => rfl) (fun _ _ => rfl) (fun c r hc hr => s58 h hv rfl a1 a2 (fun i hi => (sqChk_get a3 i hi).1) ha0 hb0 hc hr)
    unfold Ans at e40
    rw [call_eq h.h20]
    simp only [go_sem, Nat.reduceEqDiff, Nat.reduceAdd, Nat.reduceLT, Nat.reduceLeDiff, Nat.mul_one, c20, hv.len, hv.pu, hv.frz, hv.one, hv.cells, e4, e51, hf3, h0, e40, tblV]
end
end VE
end
