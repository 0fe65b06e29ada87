import Derived.Lib.Index
import Derived.Lib.ItoaNum
import Derived.Lib.Atoi
import Derived.Lib.BitFns
import Derived.Lib.Repeat
import Derived.Lib.SlTrimSet
import Derived.Shelf.Strings.Cut
import Derived.Shelf.Strings.Prefix
import Derived.Shelf.Small.Bits
import Derived.RowKit
import Derived.Test.YteioemjpepbdgaaGreatDoorFn
import Derived.Test.YteioemjpepbdgaaGreatDoorMono
set_option linter.all false
set_option maxRecDepth 4000
namespace VE
open Go
section
variable {Λ : Link} {n : Nat}
theorem calm_below {w w' : World} (h : RowKit.Below w.heap.size w w') : Calm w w' := ⟨h.os, h.tape, h.output, h.size, h.block⟩
theorem calm_drew {w : World} (k : Nat) : Calm w (w.drewN k) := ⟨rfl, rfl, rfl, Nat.le_refl _, fun _ _ => rfl⟩
theorem good_cell {w : World} (h : GoodW Λ w) {a : Addr} {v : Value} (hc : Λ.w0.cell? a = some v) : w.cell? a = some v := by
  have hb : a.block < Λ.w0.heap.size := by
    unfold World.cell? at hc
    cases hq : Λ.w0.heap[a.block]? with
    | none => simp [hq] at hc
    | some o => exact (Array.getElem?_eq_some_iff.1 hq).1
  unfold World.cell? at hc ⊢
  rw [h.1 _ hb]; exact hc
theorem pureC_of {vals : List AV} {r : AV} (hr : ∀ S w' lo u, Rep Λ.fid noM S w' r u → ResV Λ.fid S w' lo r u)
    (hent : ∀ args w, (callFunc (Λ.fid n) args).run Λ.P w = .ok (.enter (Λ.fid n) args) w)
    (h : ∀ w S args, GoodW Λ w → RepL Λ.fid noM S w vals args.toList → Calls Λ.P (Λ.fid n) args w fun e w' => ∃ u, e = .returned u ∧ Calm w w' ∧ ∀ S, Rep Λ.fid noM S w' r u) : PureC Λ n vals r := by
  intro w S args hg hS hrep _
  refine .inl ⟨hent args w, Go.callsIn_wide.2 ((h w S args hg hrep).mono ?_)⟩
  rintro e w' ⟨u, rfl, hc, hu⟩
  exact ⟨u, S, rfl, hc, fun _ h => h, fun _ h => .inl h, fun b hb => Nat.lt_of_lt_of_le (hS b hb) hc.size, hr S w' _ u (hu S)⟩
theorem pureC_now {vals : List AV} {r : AV} (hr : ∀ S w' lo u, Rep Λ.fid noM S w' r u → ResV Λ.fid S w' lo r u)
    (h : ∀ w S args, RepL Λ.fid noM S w vals args.toList → ∃ u, (callFunc (Λ.fid n) args).run Λ.P w = .ok (.value u) w ∧ ∀ S, Rep Λ.fid noM S w r u) : PureC Λ n vals r := by
  intro w S args _ hS hrep _
  obtain ⟨u, h1, h2⟩ := h w S args hrep
  exact .inr ⟨u, w, h1, u, S, rfl, Calm.refl, fun _ h => h, fun _ h => .inl h, hS, hr S w _ u (h2 S)⟩
theorem res_str {s : List Nat} : ∀ S w' lo u, Rep Λ.fid noM S w' (.str s) u → ResV Λ.fid S w' lo (.str s) u := fun S w' lo u h => ⟨[], rfl, h, rfl⟩
theorem res_int {k : IntKind} {z : Int} : ∀ S w' lo u, Rep Λ.fid noM S w' (.int k z) u → ResV Λ.fid S w' lo (.int k z) u := fun S w' lo u h => ⟨[], rfl, h, rfl⟩
theorem res_bool {b : Bool} : ∀ S w' lo u, Rep Λ.fid noM S w' (.bool b) u → ResV Λ.fid S w' lo (.bool b) u := fun S w' lo u h => ⟨[], rfl, h, rfl⟩
theorem resL_plain {S : Nat → Prop} {w' : World} {lo : Nat} : ∀ {vs : List AV} {us : List Value}, (∀ v, v ∈ vs → (∀ ex sz k cs, v ≠ .fsl ex sz k cs) ∧ pureAV v = true) → RepL Λ.fid noM S w' vs us → ResL Λ.fid S w' lo vs us []
  | [], us, _, h => by simp only [RepL] at h; exact ⟨h, rfl⟩
  | v :: vs, us, hv, h => by
    simp only [RepL] at h
    obtain ⟨u, t, rfl, h1, h2⟩ := h
    have h3 := hv v (by simp)
    refine ⟨u, t, [], [], rfl, rfl, ?_, resL_plain (fun v hm => hv v (by simp [hm])) h2⟩
    cases v <;> first | exact ⟨rfl, h1, h3.2⟩ | exact absurd rfl (h3.1 _ _ _ _)
theorem res_tup {vs : List AV} (hv : ∀ v, v ∈ vs → (∀ ex sz k cs, v ≠ .fsl ex sz k cs) ∧ pureAV v = true) : ∀ S w' lo u, Rep Λ.fid noM S w' (.tup vs) u → ResV Λ.fid S w' lo (.tup vs) u := by
  intro S w' lo u h
  simp only [Rep] at h
  obtain ⟨xs, rfl, h⟩ := h
  exact ⟨xs, [], rfl, resL_plain hv h, by simp⟩
theorem repL1 {S : Nat → Prop} {w : World} {a : AV} {args : Array Value} (h : RepL Λ.fid noM S w [a] args.toList) : ∃ u, args = #[u] ∧ Rep Λ.fid noM S w a u := by
  simp only [RepL] at h
  obtain ⟨u, r, h1, h2, h3⟩ := h
  subst h3
  refine ⟨u, ?_, h2⟩
  cases args; simp_all
theorem repL2 {S : Nat → Prop} {w : World} {a b : AV} {args : Array Value} (h : RepL Λ.fid noM S w [a, b] args.toList) : ∃ u v, args = #[u, v] ∧ Rep Λ.fid noM S w a u ∧ Rep Λ.fid noM S w b v := by
  simp only [RepL] at h
  obtain ⟨u, r, h1, h2, v, q, h3, h4, h5⟩ := h
  subst h5; subst h3
  refine ⟨u, v, ?_, h2, h4⟩
  cases args; simp_all
theorem repL3 {S : Nat → Prop} {w : World} {a b c : AV} {args : Array Value} (h : RepL Λ.fid noM S w [a, b, c] args.toList) : ∃ u v x, args = #[u, v, x] ∧ Rep Λ.fid noM S w a u ∧ Rep Λ.fid noM S w b v ∧ Rep Λ.fid noM S w c x := by
  simp only [RepL] at h
  obtain ⟨u, r, h1, h2, v, q, h3, h4, x, p, h5, h6, h7⟩ := h
  subst h7; subst h5; subst h3
  refine ⟨u, v, x, ?_, h2, h4, h6⟩
  cases args; simp_all
theorem rep_str_of {S : Nat → Prop} {w : World} {s : List Nat} {l : List UInt8} (h : l.map UInt8.toNat = s) : Rep Λ.fid noM S w (.str s) (.string ⟨l.toArray⟩) := by
  simp only [Rep]; exact ⟨_, rfl, h⟩
theorem toNat_inj {a b : UInt8} : Nat.beq a.toNat b.toNat = (a == b) := by
  by_cases h : a = b
  · subst h; simp
  · have h' : a.toNat ≠ b.toNat := fun e => h (UInt8.toNat_inj.1 e)
    have e : (a == b) = false := by simpa using h
    rw [e]
    cases hq : Nat.beq a.toNat b.toNat with
    | false => rfl
    | true => exact absurd (Nat.eq_of_beq_eq_true hq) h'
theorem isPre_map : ∀ (p s : List UInt8), isPre (p.map UInt8.toNat) (s.map UInt8.toNat) = p.isPrefixOf s
  | [], s => by cases s <;> rfl
  | a :: p, [] => rfl
  | a :: p, b :: s => by
    simp only [List.map_cons, isPre, List.isPrefixOf, isPre_map p s, toNat_inj]
theorem indexN_map : ∀ (s sep : List UInt8) (k : Nat), indexN (sep.map UInt8.toNat) (s.map UInt8.toNat) k = if 0 ≤ Lib.index s sep then some (k + (Lib.index s sep).toNat) else none
  | [], sep, k => by
    simp only [List.map_nil, indexN, Lib.index]
    cases sep with
    | nil => simp [isPre]
    | cons a r => simp [isPre]
  | b :: s, sep, k => by
    have ih := indexN_map s sep (k + 1)
    have hp := isPre_map sep (b :: s)
    simp only [List.map_cons] at hp
    simp only [List.map_cons, indexN, hp, Lib.index]
    by_cases hc : sep.isPrefixOf (b :: s) = true
    · simp [hc]
    · have hc : sep.isPrefixOf (b :: s) = false := Bool.not_eq_true _ ▸ hc
      simp only [hc, cond_false, ih, Bool.false_eq_true, if_false]
      have hge := Lib.index_ge s sep
      by_cases h0 : Lib.index s sep = -1
      · simp [h0]
      · have : 0 ≤ Lib.index s sep := by omega
        have hb : (Lib.index s sep == -1) = false := by simpa using h0
        simp only [hb, Bool.false_eq_true, if_false, if_pos this, show 0 ≤ Lib.index s sep + 1 by omega, if_true]
        congr 1
        omega
theorem memB_map (b : UInt8) : ∀ cs : List UInt8, memB b.toNat (cs.map UInt8.toNat) = cs.contains b
  | [] => rfl
  | c :: cs => by
    simp only [List.map_cons, memB, memB_map b cs, List.contains_cons, toNat_inj]
    rw [BEq.comm (a := b) (b := c)]
    cases (c == b) <;> rfl
theorem dropB_map (cs : List UInt8) : ∀ l : List UInt8, dropB (cs.map UInt8.toNat) (l.map UInt8.toNat) = (l.dropWhile (cs.contains ·)).map UInt8.toNat
  | [] => rfl
  | b :: l => by
    simp only [List.map_cons, dropB, memB_map, List.dropWhile_cons, dropB_map cs l]
    cases cs.contains b <;> simp
theorem repS_map (l : List UInt8) : ∀ n, repS (l.map UInt8.toNat) n = (Lib.repeatL l n).map UInt8.toNat
  | 0 => rfl
  | n + 1 => by simp only [repS, Lib.repeatL, List.map_append, repS_map l n]
theorem digitsN_map : ∀ (f n : Nat) (acc : List Nat), n < f → digitsN f n acc = (Lib.decDigits n).map UInt8.toNat ++ acc
  | 0, n, acc, h => by omega
  | f + 1, n, acc, h => by
    rw [digitsN, Lib.decDigits]
    by_cases hn : n < 10
    · rw [show Nat.blt n 10 = true from Nat.ble_eq_true_of_le hn, cond_true, dif_pos hn]
      have : (UInt8.ofNat (48 + n)).toNat = 48 + n := by
        rw [UInt8.toNat_ofNat']; omega
      rw [List.map_cons, this]
      rfl
    · have hb : Nat.blt n 10 = false := by
        cases hq : Nat.blt n 10 with
        | false => rfl
        | true => exact absurd (Nat.le_of_ble_eq_true hq) (by omega)
      rw [hb, cond_false, dif_neg hn, digitsN_map f (n / 10) _ (by omega), List.map_append, List.append_assoc]
      have : (UInt8.ofNat (48 + n % 10)).toNat = 48 + n % 10 := by
        rw [UInt8.toNat_ofNat']; omega
      rw [List.map_cons, this]
      rfl
theorem natS_map (n : Nat) : natS n = (Lib.decDigits n).map UInt8.toNat := by
  rw [natS, digitsN_map (n + 1) n [] (by omega), List.append_nil]
theorem intS_map (n : Int) : intS n = (Lib.itoa n).map UInt8.toNat := by
  cases n with
  | ofNat k =>
    have : ¬ Int.ofNat k < 0 := by simp
    simp only [intS, Lib.itoa, this, if_false, natS_map]
    rfl
  | negSucc k =>
    have : Int.negSucc k < 0 := Int.negSucc_lt_zero k
    simp only [intS, Lib.itoa, this, if_true, natS_map, List.map_cons]
    rfl
theorem lenB_aux : ∀ f x : Nat, lenB f x = Lib.bitLenAux f x
  | 0, _ => rfl
  | f + 1, x => by
    rw [lenB, Lib.bitLenAux]
    by_cases h : x = 0
    · subst h; rfl
    · have hb : Nat.beq x 0 = false := by
        cases hq : Nat.beq x 0 with
        | false => rfl
        | true => exact absurd (Nat.eq_of_beq_eq_true hq) h
      rw [hb, cond_false, if_neg h, lenB_aux f]
theorem asciiB_get : ∀ {cs : List UInt8}, asciiB (cs.map UInt8.toNat) = true → ∀ (j : Nat) b, cs[j]? = some b → b.toNat < 128
  | [], _, j, b, h => by simp at h
  | c :: cs, h, j, b, hb => by
    simp only [List.map_cons, asciiB, Bool.and_eq_true] at h
    cases j with
    | zero =>
      simp only [List.getElem?_cons_zero, Option.some.injEq] at hb
      subst hb
      exact Nat.le_of_ble_eq_true h.1
    | succ j => exact asciiB_get h.2 j b (by simpa using hb)
theorem blt_of {a b : Nat} (h : Nat.blt a b = true) : a < b := Nat.le_of_ble_eq_true h
theorem valN_map : ∀ {l : List UInt8} {a z : Nat}, valN (l.map UInt8.toNat) a = some z → Lib.decFrom a l = some z
  | [], a, z, h => h
  | b :: l, a, z, h => by
    simp only [List.map_cons, valN] at h
    cases hb : (Nat.ble 48 b.toNat && Nat.ble b.toNat 57) with
    | false => rw [hb] at h; cases h
    | true =>
      rw [hb] at h
      simp only [cond_true] at h
      simp only [Bool.and_eq_true] at hb
      have h1 := Nat.le_of_ble_eq_true hb.1
      have h2 := Nat.le_of_ble_eq_true hb.2
      have := valN_map h
      rw [Lib.decFrom, Lib.digitVal, if_pos ⟨h1, h2⟩]
      simp only
      rw [Nat.mul_comm a 10]
      exact this
theorem atoi_map {l : List UInt8} {z : Nat} (h : valN (l.map UInt8.toNat) 0 = some z) (h0 : 0 < l.length) : Lib.atoi l = some (z : Int) := by
  cases l with
  | nil => simp at h0
  | cons b r =>
    have hd := valN_map h
    have hb : 48 ≤ b.toNat := by
      simp only [List.map_cons, valN] at h
      cases hb : (Nat.ble 48 b.toNat && Nat.ble b.toNat 57) with
      | false => rw [hb] at h; cases h
      | true =>
        simp only [Bool.and_eq_true] at hb
        exact Nat.le_of_ble_eq_true hb.1
    have h1 : (b == 45) = false := by
      have : b ≠ 45 := fun e => by subst e; exact absurd hb (by decide)
      simpa using this
    have h2 : (b == 43) = false := by
      have : b ≠ 43 := fun e => by subst e; exact absurd hb (by decide)
      simpa using this
    simp only [Lib.atoi, h1, h2, Bool.false_eq_true, if_false, Lib.decNat, List.isEmpty_cons, hd, Option.map_some]
section
variable {f : FuncId}
theorem lib_cutPrefix (hf : Λ.fid n = f) (hent : ∀ args w, (callFunc f args).run Λ.P w = .ok (.enter f args) w)
    (hc : ∀ (s p : ByteArray) (w : World), Calls Λ.P f #[.string s, .string p] w fun e w' => e = .returned (.tuple #[.string ⟨(Lib.trimPrefix s.data.toList p.data.toList).toArray⟩, .bool (Lib.hasPrefix s.data.toList p.data.toList)]) ∧ w' = w) :
    ∀ vals r, cutPrefixS vals = some r → PureC Λ n vals r := by
  intro vals r h
  unfold cutPrefixS at h
  split at h
  · rename_i s p
    simp only [Option.some.injEq] at h
    subst h
    refine pureC_of ?_ (by rw [hf]; exact hent) ?_
    · cases isPre p s <;> exact res_tup (by simp [pureAV])
    · intro w S args hg hrep
      obtain ⟨u, v, rfl, h1, h2⟩ := repL2 hrep
      simp only [Rep] at h1 h2
      obtain ⟨t1, rfl, rfl⟩ := h1
      obtain ⟨t2, rfl, rfl⟩ := h2
      rw [hf]
      refine (hc t1 t2 w).mono ?_
      rintro e w' ⟨rfl, rfl⟩
      refine ⟨_, rfl, Calm.refl, fun S => ?_⟩
      rw [isPre_map, List.length_map]
      unfold Lib.trimPrefix Lib.hasPrefix
      cases hp : t2.data.toList.isPrefixOf t1.data.toList with
      | true =>
        simp only [cond_true, if_true, Rep, RepL]
        exact ⟨_, rfl, _, _, rfl, ⟨_, rfl, by simp [List.map_drop]⟩, _, _, rfl, rfl, rfl⟩
      | false =>
        simp only [cond_false, Bool.false_eq_true, if_false, Rep, RepL]
        exact ⟨_, rfl, _, _, rfl, ⟨_, rfl, by simp⟩, _, _, rfl, rfl, rfl⟩
  · cases h
theorem lib_hasPrefix (hf : Λ.fid n = f) (hent : ∀ args w, (callFunc f args).run Λ.P w = .ok (.enter f args) w)
    (hc : ∀ (s p : ByteArray) (w : World), Calls Λ.P f #[.string s, .string p] w fun e w' => e = .returned (.bool (Lib.hasPrefix s.data.toList p.data.toList)) ∧ w' = w) :
    ∀ vals r, hasPrefixS vals = some r → PureC Λ n vals r := by
  intro vals r h
  unfold hasPrefixS at h
  split at h
  · rename_i s p
    simp only [Option.some.injEq] at h
    subst h
    refine pureC_of res_bool (by rw [hf]; exact hent) ?_
    intro w S args hg hrep
    obtain ⟨u, v, rfl, h1, h2⟩ := repL2 hrep
    simp only [Rep] at h1 h2
    obtain ⟨t1, rfl, rfl⟩ := h1
    obtain ⟨t2, rfl, rfl⟩ := h2
    rw [hf]
    refine (hc t1 t2 w).mono ?_
    rintro e w' ⟨rfl, rfl⟩
    refine ⟨_, rfl, Calm.refl, fun S => ?_⟩
    rw [isPre_map]
    simp only [Rep, Lib.hasPrefix]
  · cases h
theorem lib_trimPrefix (hf : Λ.fid n = f) (hent : ∀ args w, (callFunc f args).run Λ.P w = .ok (.enter f args) w)
    (hc : ∀ (s p : ByteArray) (w : World), Calls Λ.P f #[.string s, .string p] w fun e w' => e = .returned (.string ⟨(Lib.trimPrefix s.data.toList p.data.toList).toArray⟩) ∧ w' = w) :
    ∀ vals r, trimPrefixS vals = some r → PureC Λ n vals r := by
  intro vals r h
  unfold trimPrefixS at h
  split at h
  · rename_i s p
    simp only [Option.some.injEq] at h
    subst h
    refine pureC_of res_str (by rw [hf]; exact hent) ?_
    intro w S args hg hrep
    obtain ⟨u, v, rfl, h1, h2⟩ := repL2 hrep
    simp only [Rep] at h1 h2
    obtain ⟨t1, rfl, rfl⟩ := h1
    obtain ⟨t2, rfl, rfl⟩ := h2
    rw [hf]
    refine (hc t1 t2 w).mono ?_
    rintro e w' ⟨rfl, rfl⟩
    refine ⟨_, rfl, Calm.refl, fun S => ?_⟩
    rw [isPre_map, List.length_map]
    refine rep_str_of ?_
    unfold Lib.trimPrefix Lib.hasPrefix
    cases hp : t2.data.toList.isPrefixOf t1.data.toList with
    | true => simp [List.map_drop]
    | false => simp
  · cases h
theorem lib_cut (hf : Λ.fid n = f) (hent : ∀ args w, (callFunc f args).run Λ.P w = .ok (.enter f args) w) {a : Addr} {m : Int} (hm : Λ.w0.cell? a = some (.int .i64 m))
    (hc : ∀ (s sep : ByteArray) (w : World), s.size < 4294967281 → w.cell? a = some (.int .i64 m) → Calls Λ.P f #[.string s, .string sep] w fun e w' => e = .returned (.tuple #[.string ⟨(Lib.cut s.data.toList sep.data.toList).1.toArray⟩, .string ⟨(Lib.cut s.data.toList sep.data.toList).2.1.toArray⟩, .bool (Lib.cut s.data.toList sep.data.toList).2.2]) ∧ ∃ n, w' = w.drewN n) :
    ∀ vals r, cutS vals = some r → PureC Λ n vals r := by
  intro vals r h
  unfold cutS at h
  split at h
  · rename_i s sep
    cases hb : Nat.blt s.length 4294967281 with
    | false => rw [hb] at h; cases h
    | true =>
      rw [hb] at h
      simp only [cond_true] at h
      have key : ∀ (q : List UInt8 × List UInt8 × Bool), (∀ t1 t2 : ByteArray, t1.data.toList.map UInt8.toNat = s → t2.data.toList.map UInt8.toNat = sep → r = .tup [.str ((Lib.cut t1.data.toList t2.data.toList).1.map UInt8.toNat), .str ((Lib.cut t1.data.toList t2.data.toList).2.1.map UInt8.toNat), .bool (Lib.cut t1.data.toList t2.data.toList).2.2]) →
          (∃ a b c, r = .tup [.str a, .str b, .bool c]) → PureC Λ n [.str s, .str sep] r := by
        intro q hq hshape
        obtain ⟨a', b', c', rfl⟩ := hshape
        refine pureC_of (res_tup (by simp [pureAV])) (by rw [hf]; exact hent) ?_
        intro w S args hg hrep
        obtain ⟨u, v, rfl, h1, h2⟩ := repL2 hrep
        simp only [Rep] at h1 h2
        obtain ⟨t1, rfl, e1⟩ := h1
        obtain ⟨t2, rfl, e2⟩ := h2
        have hr := hq t1 t2 e1 e2
        rw [hf]
        have hl : t1.size < 4294967281 := by
          have := blt_of hb
          rw [← e1, List.length_map] at this
          rw [Lib.size_eq]; exact this
        refine (hc t1 t2 w hl (good_cell hg hm)).mono ?_
        rintro e w' ⟨rfl, k, rfl⟩
        refine ⟨_, rfl, calm_drew k, fun S => ?_⟩
        rw [hr]
        simp only [Rep, RepL]
        exact ⟨_, rfl, _, _, rfl, ⟨_, rfl, by simp⟩, _, _, rfl, ⟨_, rfl, by simp⟩, _, _, rfl, rfl, rfl⟩
      refine key ([], [], false) ?_ ?_
      · intro t1 t2 e1 e2
        subst e1; subst e2
        rw [indexN_map] at h
        unfold Lib.cut
        by_cases h0 : 0 ≤ Lib.index t1.data.toList t2.data.toList
        · simp only [h0, if_true, Nat.zero_add, Option.some.injEq] at h ⊢
          rw [← h]
          simp [List.map_take, List.map_drop]
        · simp only [h0, if_false, Option.some.injEq] at h ⊢
          rw [← h]
          rfl
      · split at h
        · simp only [Option.some.injEq] at h; exact ⟨_, _, _, h.symm⟩
        · simp only [Option.some.injEq] at h; exact ⟨_, _, _, h.symm⟩
  · cases h
theorem lib_trim (hf : Λ.fid n = f) (hent : ∀ args w, (callFunc f args).run Λ.P w = .ok (.enter f args) w)
    (hc : ∀ (s cs : ByteArray) (w : World), s.size ≤ 9223372036854775807 → cs.size < 4294967281 → (∀ (j : Nat) b, cs.data.toList[j]? = some b → b.toNat < 128) → Calls Λ.P f #[.string s, .string cs] w fun e w' => e = .returned (.string ⟨(Lib.trimS s.data.toList cs.data.toList).toArray⟩) ∧ RowKit.Below w.heap.size w w') :
    ∀ vals r, trimS vals = some r → PureC Λ n vals r := by
  intro vals r h
  unfold trimS at h
  split at h
  · rename_i s cs
    cases hb : (asciiB cs && (Nat.blt s.length 4294967281 && Nat.blt cs.length 4294967281)) with
    | false => rw [hb] at h; cases h
    | true =>
      rw [hb] at h
      simp only [cond_true, Option.some.injEq] at h
      subst h
      simp only [Bool.and_eq_true] at hb
      refine pureC_of res_str (by rw [hf]; exact hent) ?_
      intro w S args hg hrep
      obtain ⟨u, v, rfl, h1, h2⟩ := repL2 hrep
      simp only [Rep] at h1 h2
      obtain ⟨t1, rfl, rfl⟩ := h1
      obtain ⟨t2, rfl, rfl⟩ := h2
      have hl1 := blt_of hb.2.1
      have hl2 := blt_of hb.2.2
      rw [List.length_map] at hl1 hl2
      rw [hf]
      refine (hc t1 t2 w (by rw [Lib.size_eq]; omega) (by rw [Lib.size_eq]; omega) (asciiB_get hb.1)).mono ?_
      rintro e w' ⟨rfl, hw⟩
      refine ⟨_, rfl, calm_below hw, fun S => rep_str_of ?_⟩
      simp only [Lib.trimS, Lib.trimLeftS, Lib.trimRightS]
      rw [← List.map_reverse, dropB_map, ← List.map_reverse, dropB_map]
  · cases h
theorem lib_repeat (hf : Λ.fid n = f) (hent : ∀ args w, (callFunc f args).run Λ.P w = .ok (.enter f args) w)
    (hc : ∀ (s : ByteArray) (c : Nat) (w : World), c ≤ 9223372036854775807 → s.size * c ≤ 140737488355328 → Calls Λ.P f #[.string s, .int .i64 c] w fun e w' => e = .returned (.string ⟨(Lib.repeatL s.data.toList c).toArray⟩) ∧ RowKit.Below w.heap.size w w') :
    ∀ vals r, repeatS vals = some r → PureC Λ n vals r := by
  intro vals r h
  unfold repeatS at h
  split at h
  · rename_i s c
    cases hb : (Nat.ble c 1099511627776 && Nat.ble (s.length * c) 1099511627776) with
    | false => rw [hb] at h; cases h
    | true =>
      rw [hb] at h
      simp only [cond_true, Option.some.injEq] at h
      subst h
      simp only [Bool.and_eq_true] at hb
      have l1 := Nat.le_of_ble_eq_true hb.1
      have l2 := Nat.le_of_ble_eq_true hb.2
      refine pureC_of res_str (by rw [hf]; exact hent) ?_
      intro w S args hg hrep
      obtain ⟨u, v, rfl, h1, h2⟩ := repL2 hrep
      simp only [Rep] at h1 h2
      obtain ⟨t1, rfl, rfl⟩ := h1
      subst h2
      rw [hf]
      rw [List.length_map] at l2
      refine (hc t1 c w (by omega) (by rw [Lib.size_eq]; omega)).mono ?_
      rintro e w' ⟨rfl, hw⟩
      exact ⟨_, rfl, calm_below hw, fun S => rep_str_of (repS_map _ _).symm⟩
  · cases h
theorem lib_itoa (hf : Λ.fid n = f) (hent : ∀ args w, (callFunc f args).run Λ.P w = .ok (.enter f args) w)
    (hc : ∀ (z : Int) (w : World), -9223372036854775808 ≤ z → z ≤ 9223372036854775807 → GoodW Λ w → Calls Λ.P f #[.int .i64 z] w fun e w' => e = .returned (.string ⟨(Lib.itoa z).toArray⟩) ∧ Calm w w') :
    ∀ vals r, itoaS vals = some r → PureC Λ n vals r := by
  intro vals r h
  unfold itoaS at h
  split at h
  · rename_i z
    cases hb : inI64 z with
    | false => rw [hb] at h; cases h
    | true =>
      rw [hb] at h
      simp only [cond_true, Option.some.injEq] at h
      subst h
      have hz : -9223372036854775808 ≤ z ∧ z ≤ 9223372036854775807 := by
        cases z with
        | ofNat k => have := blt_of hb; show -9223372036854775808 ≤ (k : Int) ∧ (k : Int) ≤ 9223372036854775807; omega
        | negSucc k => have := blt_of hb; omega
      refine pureC_of res_str (by rw [hf]; exact hent) ?_
      intro w S args hg hrep
      obtain ⟨u, rfl, h1⟩ := repL1 hrep
      simp only [Rep] at h1
      subst h1
      rw [hf]
      refine (hc z w hz.1 hz.2 hg).mono ?_
      rintro e w' ⟨rfl, hw⟩
      exact ⟨_, rfl, hw, fun S => rep_str_of (intS_map z).symm⟩
  · cases h
theorem lib_formatUint (hf : Λ.fid n = f) (hent : ∀ args w, (callFunc f args).run Λ.P w = .ok (.enter f args) w)
    (hc : ∀ (z : Nat) (w : World), z < 18446744073709551616 → GoodW Λ w → Calls Λ.P f #[.int .u64 z, .int .i64 10] w fun e w' => e = .returned (.string ⟨(Lib.decDigits z).toArray⟩) ∧ Calm w w') :
    ∀ vals r, formatUintS vals = some r → PureC Λ n vals r := by
  intro vals r h
  unfold formatUintS at h
  split at h
  · rename_i z
    cases hb : Nat.blt z 18446744073709551616 with
    | false => rw [hb] at h; cases h
    | true =>
      rw [hb] at h
      simp only [cond_true, Option.some.injEq] at h
      subst h
      refine pureC_of res_str (by rw [hf]; exact hent) ?_
      intro w S args hg hrep
      obtain ⟨u, v, rfl, h1, h2⟩ := repL2 hrep
      simp only [Rep] at h1 h2
      subst h1; subst h2
      rw [hf]
      refine (hc z w (blt_of hb) hg).mono ?_
      rintro e w' ⟨rfl, hw⟩
      exact ⟨_, rfl, hw, fun S => rep_str_of (natS_map z).symm⟩
  · cases h
theorem lib_atoi (hf : Λ.fid n = f) (hent : ∀ args w, (callFunc f args).run Λ.P w = .ok (.enter f args) w)
    (hc : ∀ (s : ByteArray) (z : Int) (w : World), s.size ≤ 18 → Lib.atoi s.data.toList = some z → Calls Λ.P f #[.string s] w fun e w' => e = .returned (.tuple #[.int .i64 z, .nilIface]) ∧ Calm w w') :
    ∀ vals r, atoiS vals = some r → PureC Λ n vals r := by
  intro vals r h
  unfold atoiS at h
  split at h
  · rename_i s
    cases hb : (Nat.blt 0 s.length && Nat.ble s.length 18) with
    | false => rw [hb] at h; cases h
    | true =>
      rw [hb] at h
      simp only [cond_true] at h
      simp only [Bool.and_eq_true] at hb
      have l1 := blt_of hb.1
      have l2 := Nat.le_of_ble_eq_true hb.2
      split at h
      · rename_i z hz
        simp only [Option.some.injEq] at h
        subst h
        refine pureC_of (res_tup (by simp [pureAV])) (by rw [hf]; exact hent) ?_
        intro w S args hg hrep
        obtain ⟨u, rfl, h1⟩ := repL1 hrep
        simp only [Rep] at h1
        obtain ⟨t1, rfl, rfl⟩ := h1
        rw [List.length_map] at l1 l2
        have ha : Lib.atoi t1.data.toList = some (z : Int) := atoi_map hz l1
        rw [hf]
        refine (hc t1 z w (by rw [Lib.size_eq]; exact l2) ha).mono ?_
        rintro e w' ⟨rfl, hw⟩
        refine ⟨_, rfl, hw, fun S => ?_⟩
        simp only [Rep, RepL]
        exact ⟨_, rfl, _, _, rfl, rfl, _, _, rfl, trivial, rfl⟩
      · cases h
  · cases h
theorem lib_mul64 (hf : Λ.fid n = f) (hent : ∀ args w, (callFunc f args).run Λ.P w = .ok (.enter f args) w)
    (hc : ∀ (x y : Nat) (w : World), x < 18446744073709551616 → y < 18446744073709551616 → Calls Λ.P f #[.int .u64 x, .int .u64 y] w fun e w' => e = .returned (.tuple #[.int .u64 ((x * y / 18446744073709551616 : Nat) : Int), .int .u64 ((x * y % 18446744073709551616 : Nat) : Int)]) ∧ w' = w) :
    ∀ vals r, mul64S vals = some r → PureC Λ n vals r := by
  intro vals r h
  unfold mul64S at h
  split at h
  · rename_i x y
    cases hb : (Nat.blt x 18446744073709551616 && Nat.blt y 18446744073709551616) with
    | false => rw [hb] at h; cases h
    | true =>
      rw [hb] at h
      simp only [cond_true, Option.some.injEq] at h
      subst h
      simp only [Bool.and_eq_true] at hb
      refine pureC_of (res_tup (by simp [pureAV])) (by rw [hf]; exact hent) ?_
      intro w S args hg hrep
      obtain ⟨u, v, rfl, h1, h2⟩ := repL2 hrep
      simp only [Rep] at h1 h2
      subst h1; subst h2
      rw [hf]
      refine (hc x y w (blt_of hb.1) (blt_of hb.2)).mono ?_
      rintro e w' ⟨rfl, rfl⟩
      refine ⟨_, rfl, Calm.refl, fun S => ?_⟩
      simp only [Rep, RepL]
      exact ⟨_, rfl, _, _, rfl, rfl, _, _, rfl, rfl, rfl⟩
  · cases h
theorem lib_len64 (hf : Λ.fid n = f) (hent : ∀ args w, (callFunc f args).run Λ.P w = .ok (.enter f args) w)
    (hc : ∀ (x : Int) (w : World), 0 ≤ x → x ≤ 18446744073709551615 → Calls Λ.P f #[.int .u64 x] w fun e w' => e = .returned (.int .i64 (Lib.bitLen x.toNat : Nat)) ∧ w' = w) :
    ∀ vals r, len64S vals = some r → PureC Λ n vals r := by
  intro vals r h
  unfold len64S at h
  split at h
  · rename_i x
    cases hb : Nat.blt x 18446744073709551616 with
    | false => rw [hb] at h; cases h
    | true =>
      rw [hb] at h
      simp only [cond_true, Option.some.injEq] at h
      subst h
      have := blt_of hb
      refine pureC_of res_int (by rw [hf]; exact hent) ?_
      intro w S args hg hrep
      obtain ⟨u, rfl, h1⟩ := repL1 hrep
      simp only [Rep] at h1
      subst h1
      rw [hf]
      refine (hc (Int.ofNat x) w (Int.natCast_nonneg x) (by show (x : Int) ≤ _; omega)).mono ?_
      rintro e w' ⟨rfl, rfl⟩
      refine ⟨_, rfl, Calm.refl, fun S => ?_⟩
      simp only [Rep]
      rw [lenB_aux]; rfl
  · cases h
theorem lib_lz64 (hf : Λ.fid n = f) (hent : ∀ args w, (callFunc f args).run Λ.P w = .ok (.enter f args) w)
    (hc : ∀ (x : Int) (w : World), 0 ≤ x → x ≤ 18446744073709551615 → Calls Λ.P f #[.int .u64 x] w fun e w' => e = .returned (.int .i64 (64 - (Lib.bitLen x.toNat : Nat))) ∧ w' = w) :
    ∀ vals r, lz64S vals = some r → PureC Λ n vals r := by
  intro vals r h
  unfold lz64S at h
  split at h
  · rename_i x
    cases hb : Nat.blt x 18446744073709551616 with
    | false => rw [hb] at h; cases h
    | true =>
      rw [hb] at h
      simp only [cond_true, Option.some.injEq] at h
      subst h
      have := blt_of hb
      have hle : ∀ f x, Lib.bitLenAux f x ≤ f := by
        intro f
        induction f with
        | zero => intro x; exact Nat.le_refl _
        | succ f ih =>
          intro x
          rw [Lib.bitLenAux]
          have := ih (x / 2)
          split <;> omega
      refine pureC_of res_int (by rw [hf]; exact hent) ?_
      intro w S args hg hrep
      obtain ⟨u, rfl, h1⟩ := repL1 hrep
      simp only [Rep] at h1
      subst h1
      rw [hf]
      refine (hc (Int.ofNat x) w (Int.natCast_nonneg x) (by show (x : Int) ≤ _; omega)).mono ?_
      rintro e w' ⟨rfl, rfl⟩
      refine ⟨_, rfl, Calm.refl, fun S => ?_⟩
      simp only [Rep, lenB_aux]
      have := hle 64 x
      show Value.int .i64 (64 - (Lib.bitLenAux 64 x : Int)) = Value.int .i64 ((64 - Lib.bitLenAux 64 x : Nat) : Int)
      congr 1
      omega
  · cases h
theorem lib_add64 (hf : Λ.fid n = f)
    (hc : ∀ (x y c : Nat) (w : World), c ≤ 1 → (callFunc f #[.int .u64 x, .int .u64 y, .int .u64 c]).run Λ.P w = .ok (.value (.tuple #[.int .u64 (((x + y + c) % 18446744073709551616 : Nat) : Int), .int .u64 (((x + y + c) / 18446744073709551616 : Nat) : Int)])) w) :
    ∀ vals r, add64S vals = some r → PureC Λ n vals r := by
  intro vals r h
  unfold add64S at h
  split at h
  · rename_i x y c
    cases hb : (Nat.ble c 1 && (Nat.blt x 18446744073709551616 && Nat.blt y 18446744073709551616)) with
    | false => rw [hb] at h; cases h
    | true =>
      rw [hb] at h
      simp only [cond_true, Option.some.injEq] at h
      subst h
      simp only [Bool.and_eq_true] at hb
      refine pureC_now (res_tup (by simp [pureAV])) ?_
      intro w S args hrep
      obtain ⟨u, v, z, rfl, h1, h2, h3⟩ := repL3 hrep
      simp only [Rep] at h1 h2 h3
      subst h1; subst h2; subst h3
      rw [hf]
      refine ⟨_, hc x y c w (Nat.le_of_ble_eq_true hb.1), fun S => ?_⟩
      simp only [Rep, RepL]
      exact ⟨_, rfl, _, _, rfl, rfl, _, _, rfl, rfl, rfl⟩
  · cases h
theorem lib_sub64 (hf : Λ.fid n = f)
    (hc : ∀ (x y b : Nat) (w : World), b ≤ 1 → (callFunc f #[.int .u64 x, .int .u64 y, .int .u64 b]).run Λ.P w = .ok (.value (.tuple #[.int .u64 (((x + 18446744073709551616 - y - b) % 18446744073709551616 : Nat) : Int), .int .u64 ((if x < y + b then 1 else 0 : Nat) : Int)])) w) :
    ∀ vals r, sub64S vals = some r → PureC Λ n vals r := by
  intro vals r h
  unfold sub64S at h
  split at h
  · rename_i x y c
    cases hb : (Nat.ble c 1 && (Nat.blt x 18446744073709551616 && Nat.blt y 18446744073709551616)) with
    | false => rw [hb] at h; cases h
    | true =>
      rw [hb] at h
      simp only [cond_true, Option.some.injEq] at h
      subst h
      simp only [Bool.and_eq_true] at hb
      have hc1 := Nat.le_of_ble_eq_true hb.1
      have hy := blt_of hb.2.2
      refine pureC_now (res_tup (by simp [pureAV])) ?_
      intro w S args hrep
      obtain ⟨u, v, z, rfl, h1, h2, h3⟩ := repL3 hrep
      simp only [Rep] at h1 h2 h3
      subst h1; subst h2; subst h3
      rw [hf]
      refine ⟨_, hc x y c w hc1, fun S => ?_⟩
      simp only [Rep, RepL]
      refine ⟨_, rfl, _, _, rfl, ?_, _, _, rfl, ?_, rfl⟩
      · congr 2
        omega
      · congr 1
        by_cases h : x < y + c
        · have : Nat.ble (y + c) x = false := by
            cases hq : Nat.ble (y + c) x with
            | false => rfl
            | true => have := Nat.le_of_ble_eq_true hq; omega
          rw [this, if_pos h]; rfl
        · rw [Nat.ble_eq_true_of_le (by omega), if_neg h]; rfl
  · cases h
end
end
end VE
