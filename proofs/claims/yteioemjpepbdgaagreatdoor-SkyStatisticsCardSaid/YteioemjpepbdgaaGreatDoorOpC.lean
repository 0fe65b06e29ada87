import Derived.WideLaws
import Derived.Test.YteioemjpepbdgaaGreatDoorOpB
set_option linter.all false
section
namespace VE
open Go
section
variable {fid : Nat → Nat} {P : Program} {m : Mp} {S : Nat → Prop} {w : World} {t : TypeId}
theorem eqGuard_ok {op : BinOp} {x y : Operand} {a b : Value} (h : P.eqGuardType P.depth t = false ∨ ∀ xs ys, ¬ (a = .agg xs ∧ b = .agg ys)) (hn : a ≠ .nilIface) :
    (eqGuard op t x y a b).run P w = .ok () w := by
  unfold eqGuard
  cases op
  all_goals first
    | rfl
    | (cases a
       all_goals first
         | rfl
         | exact absurd rfl hn
         | (cases b
            all_goals first
              | rfl
              | (rcases h with h | h
                 · simp [h]
                 · exact absurd ⟨rfl, rfl⟩ (h _ _))))
theorem eqB_ok {d : Nat} {p q : Bool} (ht : P.underlying t = some .bool) : (Op.equalIn (d + 1) t (.bool p) (.bool q)).run P w = .ok (p == q) w := by
  simp [Op.equalIn, underlying, ht]
theorem eqSl1 {d : Nat} {e : TypeId} (ht : P.underlying t = some (.slice e)) (y : Option Addr) (n c n' c' : Nat) :
    (Op.equalIn (d + 1) t (.slice none n c) (.slice y n' c')).run P w = .ok y.isNone w := by simp [Op.equalIn, underlying, ht]
theorem eqSl2 {d : Nat} {e : TypeId} (ht : P.underlying t = some (.slice e)) (x : Addr) (n c n' c' : Nat) :
    (Op.equalIn (d + 1) t (.slice (some x) n c) (.slice none n' c')).run P w = .ok false w := by simp [Op.equalIn, underlying, ht]
theorem eqFn1 {d : Nat} {ps rs : Array TypeId} {vr : Bool} (ht : P.underlying t = some (.func ps rs vr)) :
    (Op.equalIn (d + 1) t .nilFunc .nilFunc).run P w = .ok true w := by simp [Op.equalIn, underlying, ht]
theorem eqFn2 {d : Nat} {ps rs : Array TypeId} {vr : Bool} (ht : P.underlying t = some (.func ps rs vr)) (f : Go.Fn) (a b : Array Value) :
    (Op.equalIn (d + 1) t .nilFunc (.func f a b)).run P w = .ok false w := by simp [Op.equalIn, underlying, ht]
theorem eqFn3 {d : Nat} {ps rs : Array TypeId} {vr : Bool} (ht : P.underlying t = some (.func ps rs vr)) (f : Go.Fn) (a b : Array Value) :
    (Op.equalIn (d + 1) t (.func f a b) .nilFunc).run P w = .ok false w := by simp [Op.equalIn, underlying, ht]
theorem equal_eq (x y : Value) : Op.equal t x y = Op.equalIn (9999 + 1) t x y := rfl
theorem eqSl_ok {vx vy : AV} {x y : Value} {r : Bool} {e : TypeId} (ht : P.underlying t = some (.slice e)) (hx : Rep fid m S w vx x) (hy : Rep fid m S w vy y)
    (h : eqOp .sl vx vy = some r) : (Op.equal t x y).run P w = .ok r w := by
  rw [equal_eq]
  unfold eqOp at h
  split at h <;> simp_all only [Option.some.injEq, reduceCtorEq]
  all_goals subst h
  all_goals simp only [Rep] at hx hy
  · subst hx; subst hy; exact eqSl1 ht _ _ _ _ _
  · rcases hy with ⟨b, o, c, rfl, _⟩ | ⟨_, rfl, _⟩ <;> (subst hx; exact eqSl1 ht _ _ _ _ _)
  · obtain ⟨p, c, _, rfl, _⟩ := hy; subst hx; exact eqSl1 ht _ _ _ _ _
  · rcases hx with ⟨b, o, c, rfl, _⟩ | ⟨_, rfl, _⟩ <;> (subst hy; exact eqSl2 ht _ _ _ _ _)
  · obtain ⟨p, c, _, rfl, _⟩ := hx; subst hy; exact eqSl2 ht _ _ _ _ _
theorem eqFn_ok {vx vy : AV} {x y : Value} {r : Bool} {ps rs : Array TypeId} {vr : Bool} (ht : P.underlying t = some (.func ps rs vr)) (hx : Rep fid m S w vx x) (hy : Rep fid m S w vy y)
    (h : eqOp .fn vx vy = some r) : (Op.equal t x y).run P w = .ok r w := by
  rw [equal_eq]
  unfold eqOp at h
  split at h <;> simp_all only [Option.some.injEq, reduceCtorEq]
  all_goals subst h
  · simp only [Rep] at hx hy; subst hx; subst hy; exact eqFn1 ht
  · rename_i f _ _
    cases f with
    | f g => simp only [Rep] at hx hy; obtain ⟨fi, ca, rfl, _⟩ := hy; subst hx; exact eqFn2 ht _ _ _
    | y l => simp only [Rep] at hx hy; obtain ⟨p, _, rfl⟩ := hy; subst hx; exact eqFn2 ht _ _ _
  · rename_i f _ _
    cases f with
    | f g => simp only [Rep] at hx hy; obtain ⟨fi, ca, rfl, _⟩ := hx; subst hy; exact eqFn3 ht _ _ _
    | y l => simp only [Rep] at hx hy; obtain ⟨p, _, rfl⟩ := hx; subst hy; exact eqFn3 ht _ _ _
theorem unOp_ok {op : UnOp} {vx v : AV} {x : Value} (hx : Rep fid m S w vx x) (h : VE.unOp op vx = some v) : ∃ u, (Op.unary op x).run P w = .ok u w ∧ Rep fid m S w v u := by
  unfold VE.unOp at h
  split at h
  · rename_i k n
    simp only [Rep] at hx
    subst hx
    simp only [Option.some.injEq] at h
    subst h
    exact ⟨_, by simp [Op.unary, Op.intArith]; rfl, by simp [Rep]⟩
  · rename_i k n
    simp only [Rep] at hx
    subst hx
    simp only [intOp, Option.some.injEq] at h
    subst h
    exact ⟨_, by simp [Op.unary, Op.intBits]; rfl, by simp [Rep]⟩
  · rename_i b
    simp only [Rep] at hx
    subst hx
    simp only [Option.some.injEq] at h
    subst h
    exact ⟨_, by simp [Op.unary]; rfl, by simp [Rep]⟩
  · rename_i k b
    simp only [Rep] at hx
    subst hx
    simp only [Option.some.injEq] at h
    subst h
    exact ⟨_, by simp [Op.unary, Op.negFloat]; rfl, by simp [Rep]⟩
  · cases h
theorem cvInt_ok {s d : TypeId} {k : IntKind} {vx v : AV} {x : Value} (hd : P.underlying d = some (.int k)) (hs : (∃ k', P.underlying s = some (.int k')) ∨ ∃ k', P.underlying s = some (.float k'))
    (hx : Rep fid m S w vx x) (h : cvOp (.toInt k) vx = some v) : ∃ u, (convert s d x).run P w = .ok u w ∧ Rep fid m S w v u := by
  cases vx <;> simp only [cvOp, reduceCtorEq] at h
  case int k0 n =>
    simp only [Rep] at hx
    subst hx
    simp only [Option.some.injEq] at h
    subst h
    refine ⟨.int k (k.wrap n), ?_, by simp [Rep]⟩
    rcases hs with ⟨k', h'⟩ | ⟨k', h'⟩ <;> simp [convert, underlying, Conv.intToInt, hd, h']
  case flt sk b =>
    simp only [Rep] at hx
    subst hx
    cases hi : (sk.decode b).toInt .zero with
    | none => simp [hi] at h
    | some n =>
      simp only [hi] at h
      by_cases hr : k.min ≤ n ∧ n ≤ k.max
      · simp only [hr, and_self, if_true, Option.some.injEq] at h
        subst h
        refine ⟨.int k n, ?_, by simp [Rep]⟩
        rcases hs with ⟨k', h'⟩ | ⟨k', h'⟩ <;> simp [convert, underlying, Conv.floatToInt, hd, h', hi, hr]
      · simp [hr] at h
theorem cvFlt_ok {s d : TypeId} {k : FloatKind} {vx v : AV} {x : Value} (hd : P.underlying d = some (.float k)) (hs : (∃ k', P.underlying s = some (.int k')) ∨ ∃ k', P.underlying s = some (.float k'))
    (hx : Rep fid m S w vx x) (h : cvOp (.toFlt k) vx = some v) : ∃ u, (convert s d x).run P w = .ok u w ∧ Rep fid m S w v u := by
  cases vx <;> simp only [cvOp, reduceCtorEq] at h
  case int k0 n =>
    simp only [Rep] at hx
    subst hx
    simp only [Option.some.injEq] at h
    subst h
    refine ⟨.float k (k.nearest n), ?_, by simp [Rep]⟩
    rcases hs with ⟨k', h'⟩ | ⟨k', h'⟩ <;> simp [convert, underlying, Conv.intToFloat, hd, h']
  case flt sk b =>
    simp only [Rep] at hx
    subst hx
    by_cases he : sk = k
    · subst he
      simp only [if_true, Option.some.injEq] at h
      subst h
      refine ⟨.float sk b, ?_, by simp [Rep]⟩
      rcases hs with ⟨k', h'⟩ | ⟨k', h'⟩ <;> simp [convert, underlying, Conv.floatToFloat, hd, h']
    · simp only [he, if_false] at h
      cases hdec : sk.decode b with
      | nan _ _ => simp [hdec] at h
      | infinity _ => simp [hdec] at h
      | number sg mm ee =>
        simp only [hdec] at h
        cases hinf : (k.decode (k.encode (.number sg mm ee))).isInfinity with
        | true => simp [hinf] at h
        | false =>
          simp only [hinf, Bool.false_eq_true, if_false, Option.some.injEq] at h
          subst h
          refine ⟨.float k (k.encode (.number sg mm ee)), ?_, by simp [Rep]⟩
          rcases hs with ⟨k', h'⟩ | ⟨k', h'⟩ <;> simp [convert, underlying, Conv.floatToFloat, hd, h', he, hdec, hinf]
theorem cvStr_ok {s d : TypeId} {vx v : AV} {x : Value} (hd : P.underlying d = some .string) (hs : P.underlying s = some .string)
    (hx : Rep fid m S w vx x) (h : cvOp .str vx = some v) : ∃ u, (convert s d x).run P w = .ok u w ∧ Rep fid m S w v u := by
  cases vx <;> simp only [cvOp, reduceCtorEq] at h
  simp only [Option.some.injEq] at h
  subst h
  simp only [Rep] at hx
  obtain ⟨b, rfl, hb⟩ := hx
  exact ⟨.string b, by simp [convert, underlying, hs, hd], by simp only [Rep]; exact ⟨b, rfl, hb⟩⟩
end
end VE
end
section
namespace VE
open Go
theorem asNat_inv {v : AV} {k : Nat} (h : asNat v = some k) : ∃ kd, v = .int kd (k : Int) := by
  cases v <;> simp only [asNat, reduceCtorEq] at h
  rename_i kd n
  cases n with
  | ofNat j => simp only [Option.some.injEq] at h; subst h; exact ⟨kd, rfl⟩
  | negSucc j => cases h
section
variable {Λ : Link} {H : Hint} {m : Mp} {S : Nat → Prop} {w : World} {tm : Env} {a : Act}
theorem rep_nat {fid : Nat → Nat} {v : AV} {x : Value} {k : Nat} (hx : Rep fid m S w v x) (h : asNat v = some k) : ∃ kd, x = .int kd (k : Int) := by
  obtain ⟨kd, rfl⟩ := asNat_inv h
  simp only [Rep] at hx
  exact ⟨kd, hx⟩
theorem run_sliceBound {P : Program} {kd : IntKind} {k y : Nat} {code : BoundsCode} (h : k ≤ y) : (Instr.sliceBound (.int kd (k : Int)) y code).run P w = .ok k w := by
  have : (0 : Int) ≤ (k : Int) ∧ (k : Int) ≤ (y : Int) := by omega
  simp [Instr.sliceBound, asIntOf, this]
theorem bounds_ok {P : Program} {isSlice : Bool} {len cap l h : Nat} {lo hi : Option Operand} (hH : HintOk Λ H) (ht : TRel Λ m S w tm a.tmps)
    (hl : bound tm 0 (lo.map (opX H)) = some l) (hh : bound tm len (hi.map (opX H)) = some h) (h1 : l ≤ h) (h2 : h ≤ cap) :
    (Instr.sliceBounds isSlice len cap (lo.map a.eval) (hi.map a.eval) none).run P w = .ok (l, h, cap) w := by
  cases lo with
  | none =>
    simp only [Option.map_none, bound, Option.some.injEq] at hl
    subst hl
    cases hi with
    | none =>
      simp only [Option.map_none, bound, Option.some.injEq] at hh
      subst hh
      simp [Instr.sliceBounds]
    | some y =>
      simp only [Option.map_some, bound] at hh
      obtain ⟨kd, e⟩ := rep_nat (rep_x hH ht y) hh
      simp only [Instr.sliceBounds, Option.map_none, Option.map_some, e, Sem.run_bind, Sem.run_pure, Result.andThen_ok, run_sliceBound h2]
  | some x =>
    simp only [Option.map_some, bound] at hl
    obtain ⟨kd, e⟩ := rep_nat (rep_x hH ht x) hl
    cases hi with
    | none =>
      simp only [Option.map_none, bound, Option.some.injEq] at hh
      subst hh
      simp only [Instr.sliceBounds, Option.map_none, Option.map_some, e, Sem.run_bind, Sem.run_pure, Result.andThen_ok, run_sliceBound h1]
    | some y =>
      simp only [Option.map_some, bound] at hh
      obtain ⟨kd', e'⟩ := rep_nat (rep_x hH ht y) hh
      simp only [Instr.sliceBounds, Option.map_some, e, e', Sem.run_bind, Sem.run_pure, Result.andThen_ok, run_sliceBound h2, run_sliceBound h1]
theorem cutStr_ok {t : TypeId} {lo hi : Option Operand} {vx v : AV} {x : Value} (hH : HintOk Λ H) (ht : TRel Λ m S w tm a.tmps) (hu : Λ.P.underlying t = some .string)
    (hx : Rep Λ.fid m S w vx x) {hp : Hp} (h : cutOp hp .str vx tm (lo.map (opX H)) (hi.map (opX H)) = some v) :
    ∃ u, (Instr.sliceAt t x (lo.map a.eval) (hi.map a.eval) none).run Λ.P w = .ok u w ∧ Rep Λ.fid m S w v u := by
  cases vx <;> simp only [cutOp, reduceCtorEq] at h
  rename_i s
  simp only [Rep] at hx
  obtain ⟨b, rfl, rfl⟩ := hx
  cases hl : bound tm 0 (lo.map (opX H)) with
  | none => simp [hl] at h
  | some l =>
    simp only [hl] at h
    cases hh : bound tm (b.data.toList.map UInt8.toNat).length (hi.map (opX H)) with
    | none => rw [hh] at h; cases h
    | some g =>
      rw [hh] at h
      simp only at h
      cases hc : (Nat.ble l g && Nat.ble g (b.data.toList.map UInt8.toNat).length) with
      | false => rw [hc] at h; cases h
      | true =>
        rw [hc] at h
        simp only [cond_true, Option.some.injEq] at h
        subst h
        simp only [Bool.and_eq_true] at hc
        have h1 := Nat.le_of_ble_eq_true hc.1
        have h2 := Nat.le_of_ble_eq_true hc.2
        have hlen : (b.data.toList.map UInt8.toNat).length = b.size := len_bytes b
        rw [hlen] at hh h2
        refine ⟨.string (b.extract l g), ?_, ?_⟩
        · simp only [Instr.sliceAt, Sem.run_bind, run_underlying hu, Result.andThen_ok, Instr.slice, Option.isSome_none, Bool.false_eq_true, if_false, Sem.run_pure,
            bounds_ok (P := Λ.P) (isSlice := false) (len := b.size) (cap := b.size) hH ht hl hh h1 h2]
        · simp only [Rep]
          refine ⟨_, rfl, ?_⟩
          rw [Lib.extract_data, List.map_take, List.map_drop, List.drop_take]
theorem cutSl_ok {t e : TypeId} {sz : Nat} {lo hi : Option Operand} {vx v : AV} {x : Value} (hH : HintOk Λ H) (ht : TRel Λ m S w tm a.tmps) (hu : Λ.P.underlying t = some (.slice e)) (hz : szT Λ.P e = some sz)
    {hp : Hp} {ct : Nat} (hh : HRel Λ m S w hp ct)
    (hx : Rep Λ.fid m S w vx x) (h : cutOp hp (.sl sz) vx tm (lo.map (opX H)) (hi.map (opX H)) = some v) :
    ∃ u, (Instr.sliceAt t x (lo.map a.eval) (hi.map a.eval) none).run Λ.P w = .ok u w ∧ Rep Λ.fid m S w v u := by
  have hsz : (Go.sizeOf e).run Λ.P w = .ok sz w := by
    unfold szT at hz
    cases hi : Λ.P.info? e with
    | none => simp [hi] at hz
    | some i => simp_all [Go.sizeOf, typeInfo]
  have run_sl : ∀ (ad : Option Addr) (n c l g : Nat), bound tm 0 (lo.map (opX H)) = some l → bound tm n (hi.map (opX H)) = some g → l ≤ g → g ≤ c →
      (Instr.sliceAt t (.slice ad n c) (lo.map a.eval) (hi.map a.eval) none).run Λ.P w = .ok (.slice (if c = l then ad else ad.map (·.add (l * sz))) (g - l) (c - l)) w := by
    intro ad n c l g hl hg h1 h2
    simp only [Instr.sliceAt, Sem.run_bind, run_underlying hu, Result.andThen_ok, Instr.slice, Sem.run_pure, hsz,
      bounds_ok (P := Λ.P) (isSlice := true) (len := n) (cap := c) hH ht hl hg h1 h2]
  cases vx <;> simp only [cutOp, reduceCtorEq] at h
  case nils =>
    simp only [Rep] at hx
    subst hx
    cases hl : bound tm 0 (lo.map (opX H)) with
    | none => simp [hl] at h
    | some l =>
      cases l with
      | succ l => simp [hl] at h
      | zero =>
        simp only [hl] at h
        cases hh : bound tm 0 (hi.map (opX H)) with
        | none => simp [hh] at h
        | some g =>
          cases g with
          | succ g => simp [hh] at h
          | zero =>
            simp only [hh, Option.some.injEq] at h
            subst h
            exact ⟨_, run_sl none 0 0 0 0 hl hh (Nat.le_refl _) (Nat.le_refl _), by simp [Rep]⟩
  case vsl ex n cs =>
    simp only [Rep] at hx
    rcases hx with ⟨b, o, c, rfl, hnc, hex, hS, hpu, hra⟩ | ⟨ad, rfl, rfl, rfl⟩
    case inr =>
      cases hl : bound tm 0 (lo.map (opX H)) with
      | none => simp [hl] at h
      | some l =>
        simp only [hl] at h
        cases hh : bound tm 0 (hi.map (opX H)) with
        | none => simp [hh] at h
        | some g =>
          simp only [hh] at h
          cases hc : (Nat.ble l g && Nat.ble g 0) with
          | false => rw [hc] at h; cases h
          | true =>
            rw [hc] at h
            simp only [cond_true, Option.some.injEq] at h
            subst h
            simp only [Bool.and_eq_true] at hc
            have h1 := Nat.le_of_ble_eq_true hc.1
            have h2 := Nat.le_of_ble_eq_true hc.2
            have hg : g = 0 := by omega
            subst hg
            have hl0 : l = 0 := by omega
            subst hl0
            refine ⟨_, run_sl (some ad) 0 0 0 0 hl hh h1 h2, ?_⟩
            simp only [Rep]
            exact .inr ⟨ad, by simp, by simp, by simp [slice]⟩
    cases hl : bound tm 0 (lo.map (opX H)) with
    | none => simp [hl] at h
    | some l =>
      simp only [hl] at h
      cases hh : bound tm n (hi.map (opX H)) with
      | none => simp [hh] at h
      | some g =>
        simp only [hh] at h
        cases hc : (Nat.ble l g && Nat.ble g n) with
        | false => rw [hc] at h; cases h
        | true =>
          rw [hc] at h
          simp only [cond_true, Option.some.injEq] at h
          subst h
          simp only [Bool.and_eq_true] at hc
          have h1 := Nat.le_of_ble_eq_true hc.1
          have h2 := Nat.le_of_ble_eq_true hc.2
          refine ⟨_, run_sl (some ⟨b, o, none⟩) n c l g hl hh h1 (by omega), ?_⟩
          have hpure : pureL (slice (l * sz) ((g - l) * sz) cs) = true := by
            have pd : ∀ (k : Nat) (cs : List AV), pureL cs = true → pureL (cs.drop k) = true := by
              intro k
              induction k with
              | zero => intro cs h; simpa using h
              | succ k ih => intro cs h; cases cs with
                | nil => simpa using h
                | cons c cs => simp only [pureL, Bool.and_eq_true] at h; simpa using ih cs h.2
            have pt : ∀ (k : Nat) (cs : List AV), pureL cs = true → pureL (cs.take k) = true := by
              intro k
              induction k with
              | zero => intro cs h; simp [pureL]
              | succ k ih => intro cs h; cases cs with
                | nil => simp [pureL]
                | cons c cs => simp only [pureL, Bool.and_eq_true, List.take_succ_cons] at h ⊢; exact ⟨h.1, ih cs h.2⟩
            exact pt _ _ (pd _ _ hpu)
          have hex' : (ex && Nat.beq g n) = true → c - l = g - l := by
            intro hq
            simp only [Bool.and_eq_true] at hq
            have := hex hq.1
            have := Nat.eq_of_beq_eq_true hq.2
            omega
          simp only [Rep]
          by_cases hcl : c = l
          · have h0 : g - l = 0 := by omega
            have hs0 : slice (l * sz) ((g - l) * sz) cs = [] := by simp [slice, h0]
            rw [hs0]
            exact .inl ⟨b, o, c - l, by simp [hcl], by omega, hex', .inl rfl, rfl, by simp [RepAt]⟩
          · refine .inl ⟨b, o + l * sz, c - l, by simp [hcl, add_mk], by omega, hex', ?_, hpure, ?_⟩
            · rcases hS with rfl | hS
              · exact .inl (by simp [slice])
              · exact .inr hS
            · exact repAt_take _ _ _ _ (repAt_drop _ _ _ _ hra)
  case osl id o n =>
    simp only [Rep] at hx
    obtain ⟨p, c, hm, rfl, hnc, hoc⟩ := hx
    split at h
    case h_2 => cases h
    rename_i rw0 pu0 ex0 z0 cs0 hget0
    obtain ⟨p', arr, t', hm', _, hz', _⟩ := hh.obj id _ _ hget0 hm
    rw [hm] at hm'
    injection hm' with hm'
    subst hm'
    cases hl : bound tm 0 (lo.map (opX H)) with
    | none => simp [hl] at h
    | some l =>
      simp only [hl] at h
      cases hh : bound tm n (hi.map (opX H)) with
      | none => simp [hh] at h
      | some g =>
        simp only [hh] at h
        cases hc : (Nat.ble l g && Nat.ble g n && Nat.beq z0 sz) with
        | false => rw [hc] at h; cases h
        | true =>
          rw [hc] at h
          simp only [cond_true] at h
          simp only [Bool.and_eq_true] at hc
          have h1 := Nat.le_of_ble_eq_true hc.1.1
          have h2 := Nat.le_of_ble_eq_true hc.1.2
          have hpz : p.z = sz := hz'.trans (Nat.eq_of_beq_eq_true hc.2)
          cases he : (Nat.beq l g && !Nat.beq l 0) with
          | true =>
            rw [he] at h
            simp only [cond_true, Option.some.injEq] at h
            subst h
            simp only [Bool.and_eq_true] at he
            have hlg := Nat.eq_of_beq_eq_true he.1
            refine ⟨_, run_sl (some ⟨p.b, p.o + o, none⟩) n c l g hl hh h1 (by omega), ?_⟩
            simp only [Rep]
            by_cases hcl : c = l
            · exact .inl ⟨p.b, p.o + o, c - l, by simp [hcl]; omega, by omega, by simp, by simp, by simp [pureL], by simp [RepAt]⟩
            · exact .inl ⟨p.b, p.o + o + l * sz, c - l, by simp [hcl, add_mk]; omega, by omega, by simp, by simp, by simp [pureL], by simp [RepAt]⟩
          | false =>
            rw [he] at h
            simp only [cond_false, Option.some.injEq] at h
            subst h
            have hcl : c = l → l = 0 := by
              intro hcl
              have hlg : l = g := by omega
              cases hl0 : Nat.beq l 0 with
              | true => exact Nat.eq_of_beq_eq_true hl0
              | false => rw [hlg, Nat.beq_refl, ← hlg, hl0] at he; cases he
            refine ⟨_, run_sl (some ⟨p.b, p.o + o, none⟩) n c l g hl hh h1 (by omega), ?_⟩
            simp only [Rep]
            refine ⟨p, c - l, hm, ?_, by omega, ?_⟩
            · by_cases hcl' : c = l
              · have := hcl hcl'; subst this; subst hcl'; simp
              · simp [hcl', add_mk, Nat.add_assoc]
            · rw [hpz] at hoc ⊢
              have : c * sz = l * sz + (c - l) * sz := by rw [← Nat.add_mul]; congr 1; omega
              omega
end
end VE
end
section
namespace VE
open Go
theorem run_sizeOf' {P : Program} {w : World} {t : TypeId} {sz : Nat} (hz : szT P t = some sz) : (Go.sizeOf t).run P w = .ok sz w := by
  unfold szT at hz
  cases hi : P.info? t with
  | none => simp [hi] at hz
  | some i => simp_all [Go.sizeOf, typeInfo]
section
variable {Λ : Link} {H : Hint} {m : Mp} {S : Nat → Prop} {w : World} {tm : Env} {a : Act} {hp : Hp} {ct : Nat}
theorem cells_of {id o n : Nat} {rw pu ex : Bool} {sz : Nat} {cs : List AV} {p : Pl} (hh : HRel Λ m S w hp ct) (hg : hget hp id = some (.cells rw pu ex sz cs)) (hm : m id = some p) :
    RepAt Λ.fid m S w cs p.b p.o := by
  obtain ⟨p', arr, t', hm', _, _, _, _, _, hr, _⟩ := hh.obj id _ _ hg hm
  rw [hm] at hm'
  injection hm' with hm'
  subst hm'
  exact hr
theorem ld_ok {t : TypeId} {sz : Nat} {ag : Bool} {vx v : AV} {x : Value} (hh : HRel Λ m S w hp ct) (hz : szT Λ.P t = some sz) (ha : aggT Λ.P t = some ag) (hx : Rep Λ.fid m S w vx x)
    (h : ldOp hp sz ag vx = some v) : ∃ u, (Instr.loadAt t x).run Λ.P w = .ok u w ∧ Rep Λ.fid m S w v u := by
  cases vx <;> simp only [ldOp, reduceCtorEq] at h
  case ptr id o =>
    simp only [Rep] at hx
    obtain ⟨p, hm, rfl⟩ := hx
    split at h
    case h_2 => cases h
    rename_i rw0 pu0 ex0 z0 cs0 hget0
    have hr := cells_of (id := id) (o := 0) (n := 0) hh hget0 hm
    obtain ⟨u, h1, h2⟩ := load_ok hz ha (repAt_drop o cs0 p.b p.o hr) h
    exact ⟨u, by simp only [Instr.loadAt, Instr.sureAddr, Sem.run_bind, Sem.run_pure, Result.andThen_ok]; exact h1, h2⟩
  case vptr cs =>
    simp only [Rep] at hx
    obtain ⟨b, o, rfl, _, _, hr⟩ := hx
    obtain ⟨u, h1, h2⟩ := load_ok hz ha hr h
    exact ⟨u, by simp only [Instr.loadAt, Instr.sureAddr, Sem.run_bind, Sem.run_pure, Result.andThen_ok]; exact h1, h2⟩
theorem pureL_drop : ∀ (k : Nat) (cs : List AV), pureL cs = true → pureL (cs.drop k) = true
  | 0, cs, h => by simpa using h
  | k + 1, [], h => by simpa using h
  | k + 1, c :: cs, h => by simp only [pureL, Bool.and_eq_true] at h; simpa using pureL_drop k cs h.2
theorem vptr_drop {cs : List AV} {b o k : Nat} (h2 : cs = [] ∨ S b) (h3 : pureL cs = true) (h4 : RepAt Λ.fid m S w cs b o) : Rep Λ.fid m S w (.vptr (cs.drop k)) (.pointer (some ⟨b, o + k, none⟩)) := by
  simp only [Rep]
  refine ⟨b, o + k, rfl, ?_, pureL_drop k cs h3, repAt_drop k cs b o h4⟩
  rcases h2 with rfl | h2
  · exact .inl (by simp)
  · exact .inr h2
theorem off_ok {t : TypeId} {fs : Array Field} {i : Nat} {f : Field} {sz : Nat} {vx v : AV} {x : Value} (hu : Λ.P.underlying t = some (.struct fs)) (hf : fs[i]? = some f) (hz : szT Λ.P f.type = some (sz + 1))
    (hx : Rep Λ.fid m S w vx x)
    (h : offOp f.offset vx = some v) : ∃ u, (Instr.fieldAt t x i).run Λ.P w = .ok u w ∧ Rep Λ.fid m S w v u := by
  have run_f : ∀ (b o : Nat), (Instr.fieldAt t (.pointer (some ⟨b, o, none⟩)) i).run Λ.P w = .ok (.pointer (some ⟨b, o + f.offset, none⟩)) w := by
    intro b o
    simp only [Instr.fieldAt, Sem.run_bind, run_underlying hu, Result.andThen_ok, hf, Instr.sureAddr, Sem.run_pure, fieldPlace, run_sizeOf' hz, Nat.succ_ne_zero, if_false, add_mk]
  cases vx <;> simp only [offOp, reduceCtorEq] at h
  case ptr id o =>
    simp only [Rep] at hx
    obtain ⟨p, hm, rfl⟩ := hx
    simp only [Option.some.injEq] at h
    subst h
    exact ⟨_, run_f _ _, by simp only [Rep]; exact ⟨p, hm, by rw [Nat.add_assoc]⟩⟩
  case vptr cs =>
    simp only [Rep] at hx
    obtain ⟨b, o, rfl, h2, h3, h4⟩ := hx
    cases hc : Nat.ble f.offset cs.length with
    | false => rw [hc] at h; cases h
    | true =>
      rw [hc] at h
      simp only [cond_true, Option.some.injEq] at h
      subst h
      exact ⟨_, run_f _ _, vptr_drop h2 h3 h4⟩
theorem fld_ok {t : TypeId} {fs : Array Field} {i : Nat} {f : Field} {sz : Nat} {ag : Bool} {vx v : AV} {x : Value} (hu : Λ.P.underlying t = some (.struct fs)) (hf : fs[i]? = some f)
    (hz : szT Λ.P f.type = some sz) (ha : aggT Λ.P f.type = some ag) (hx : Rep Λ.fid m S w vx x)
    (h : fldOp f.offset sz ag vx = some v) : ∃ u, (Instr.field t x i).run Λ.P w = .ok u w ∧ Rep Λ.fid m S w v u := by
  cases vx <;> simp only [fldOp, reduceCtorEq] at h
  simp only [Rep] at hx
  obtain ⟨xs, rfl, hr⟩ := hx
  obtain ⟨u, h1, h2⟩ := part_ok hz ha hr h
  exact ⟨u, by simp only [Instr.field, Sem.run_bind, run_underlying hu, Result.andThen_ok, hf, asAgg, Sem.run_pure]; exact h1, h2⟩
theorem ixa_ok {t e : TypeId} {sz k : Nat} {vx vi v : AV} {x i : Value} (hu : Λ.P.underlying t = some (.slice e)) (hz : szT Λ.P e = some sz) (hx : Rep Λ.fid m S w vx x) (hi : Rep Λ.fid m S w vi i)
    (hk : asNat vi = some k)
    (h : ixaOp sz k vx = some v) : ∃ u, (Instr.indexAt t x i).run Λ.P w = .ok u w ∧ Rep Λ.fid m S w v u := by
  obtain ⟨kd, rfl⟩ := rep_nat hi hk
  have run_i : ∀ (b o n c : Nat), k < n → (Instr.indexAt t (.slice (some ⟨b, o, none⟩) n c) (.int kd (k : Int))).run Λ.P w = .ok (.pointer (some ⟨b, o + k * sz, none⟩)) w := by
    intro b o n c hkn
    have hr : (0 : Int) ≤ (k : Int) ∧ (k : Int) < (n : Int) := by omega
    simp [Instr.indexAt, asIntOf, run_underlying hu, run_sizeOf' hz, hr, add_mk]
    intro hle; exact absurd hle (by omega)
  cases vx <;> simp only [ixaOp, reduceCtorEq] at h
  case osl id o n =>
    simp only [Rep] at hx
    obtain ⟨p, c, hm, rfl, hnc, hoc⟩ := hx
    cases hc : Nat.blt k n with
    | false => rw [hc] at h; cases h
    | true =>
      rw [hc] at h
      simp only [cond_true, Option.some.injEq] at h
      subst h
      have hkn : k < n := by simp only [Nat.blt, Nat.ble_eq] at hc; omega
      exact ⟨_, run_i _ _ _ _ hkn, by simp only [Rep]; exact ⟨p, hm, by rw [Nat.add_assoc]⟩⟩
  case vsl ex n cs =>
    simp only [Rep] at hx
    rcases hx with ⟨b, o, c, rfl, hnc, hex, h2, h3, h4⟩ | ⟨a, rfl, rfl, rfl⟩
    case inr =>
      have : Nat.blt k 0 = false := by cases hq : Nat.blt k 0 with | false => rfl | true => simp only [Nat.blt, Nat.ble_eq] at hq; omega
      rw [this] at h
      cases h
    cases hc : Nat.blt k n with
    | false => rw [hc] at h; cases h
    | true =>
      rw [hc] at h
      simp only [cond_true, Option.some.injEq] at h
      subst h
      have hkn : k < n := by simp only [Nat.blt, Nat.ble_eq] at hc; omega
      exact ⟨_, run_i _ _ _ _ hkn, vptr_drop h2 h3 h4⟩
theorem ixp_ok {t e : TypeId} {len sz k : Nat} {vx vi v : AV} {x i : Value} (hu : Λ.P.underlying t = some (.array len e)) (hz : szT Λ.P e = some sz) (hx : Rep Λ.fid m S w vx x) (hi : Rep Λ.fid m S w vi i)
    (hk : asNat vi = some k)
    (h : ixpOp len sz k vx = some v) : ∃ u, (Instr.indexAt t x i).run Λ.P w = .ok u w ∧ Rep Λ.fid m S w v u := by
  obtain ⟨kd, rfl⟩ := rep_nat hi hk
  have run_i : ∀ (b o : Nat), k < len → (Instr.indexAt t (.pointer (some ⟨b, o, none⟩)) (.int kd (k : Int))).run Λ.P w = .ok (.pointer (some ⟨b, o + k * sz, none⟩)) w := by
    intro b o hkn
    have hr : (0 : Int) ≤ (k : Int) ∧ (k : Int) < (len : Int) := by omega
    simp [Instr.indexAt, asIntOf, run_underlying hu, run_sizeOf' hz, hr, add_mk, Instr.sureAddr]
    intro hle; exact absurd hle (by omega)
  cases vx <;> simp only [ixpOp, reduceCtorEq] at h
  case ptr id o =>
    simp only [Rep] at hx
    obtain ⟨p, hm, rfl⟩ := hx
    cases hc : Nat.blt k len with
    | false => rw [hc] at h; cases h
    | true =>
      rw [hc] at h
      simp only [cond_true, Option.some.injEq] at h
      subst h
      have hkn : k < len := by simp only [Nat.blt, Nat.ble_eq] at hc; omega
      exact ⟨_, run_i _ _ hkn, by simp only [Rep]; exact ⟨p, hm, by rw [Nat.add_assoc]⟩⟩
  case vptr cs =>
    simp only [Rep] at hx
    obtain ⟨b, o, rfl, h2, h3, h4⟩ := hx
    cases hc : Nat.blt k len with
    | false => rw [hc] at h; cases h
    | true =>
      rw [hc] at h
      simp only [cond_true, Option.some.injEq] at h
      subst h
      have hkn : k < len := by simp only [Nat.blt, Nat.ble_eq] at hc; omega
      exact ⟨_, run_i _ _ hkn, vptr_drop h2 h3 h4⟩
theorem ixv_ok {t e : TypeId} {len sz k : Nat} {ag : Bool} {vx vi v : AV} {x i : Value} (hu : Λ.P.underlying t = some (.array len e)) (hz : szT Λ.P e = some sz) (ha : aggT Λ.P e = some ag)
    (hx : Rep Λ.fid m S w vx x) (hi : Rep Λ.fid m S w vi i) (hk : asNat vi = some k)
    (h : ixvOp len sz ag k vx = some v) :
    ∃ u, (Instr.index t x i).run Λ.P w = .ok u w ∧ Rep Λ.fid m S w v u := by
  obtain ⟨kd, rfl⟩ := rep_nat hi hk
  cases vx <;> simp only [ixvOp, reduceCtorEq] at h
  simp only [Rep] at hx
  obtain ⟨xs, rfl, hr⟩ := hx
  cases hc : Nat.blt k len with
  | false => rw [hc] at h; cases h
  | true =>
    rw [hc] at h
    simp only [cond_true] at h
    have hkn : k < len := by simp only [Nat.blt, Nat.ble_eq] at hc; omega
    obtain ⟨u, h1, h2⟩ := part_ok hz ha hr h
    have hr' : (0 : Int) ≤ (k : Int) ∧ (k : Int) < (len : Int) := by omega
    exact ⟨u, by simp [Instr.index, asIntOf, run_underlying hu, run_sizeOf' hz, hr', h1]; intro hle; exact absurd hle (by omega), h2⟩
theorem ixs_ok {t : TypeId} {k : Nat} {vx vi v : AV} {x i : Value} (hu : Λ.P.underlying t = some .string) (hx : Rep Λ.fid m S w vx x) (hi : Rep Λ.fid m S w vi i) (hk : asNat vi = some k)
    (h : ixsOp k vx = some v) :
    ∃ u, (Instr.index t x i).run Λ.P w = .ok u w ∧ Rep Λ.fid m S w v u := by
  obtain ⟨kd, rfl⟩ := rep_nat hi hk
  cases vx <;> simp only [ixsOp, reduceCtorEq] at h
  rename_i s
  simp only [Rep] at hx
  obtain ⟨b, rfl, rfl⟩ := hx
  cases hs : (b.data.toList.map UInt8.toNat)[k]? with
  | none => rw [hs] at h; cases h
  | some q =>
    rw [hs] at h
    simp only [Option.some.injEq] at h
    subst h
    rw [List.getElem?_map] at hs
    cases hb : b.data.toList[k]? with
    | none => rw [hb] at hs; cases hs
    | some c =>
      rw [hb] at hs
      simp only [Option.map_some, Option.some.injEq] at hs
      subst hs
      have hb' : b[k]? = some c := by
        have hlt : k < b.data.toList.length := by
          rcases Nat.lt_or_ge k b.data.toList.length with h | h
          · exact h
          · rw [List.getElem?_eq_none h] at hb; cases hb
        have hsz : k < b.size := by rw [Lib.size_eq]; exact hlt
        rw [getElem?_pos b k hsz]
        rw [List.getElem?_eq_getElem hlt] at hb
        injection hb with hb
        rw [← hb]
        rfl
      refine ⟨.int .u8 c.toNat, ?_, by simp [Rep]⟩
      simp [Instr.index, asIntOf, run_underlying hu, hb']
end
end VE
end
