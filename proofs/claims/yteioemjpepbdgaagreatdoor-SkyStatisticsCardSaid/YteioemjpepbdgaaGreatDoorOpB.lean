import Derived.Laws.Strings
import Derived.Lib.Strings
import Derived.Test.YteioemjpepbdgaaGreatDoorOpA
set_option linter.all false
namespace VE
open Go
def bytesN (t : ByteArray) : List Nat := t.data.toList.map UInt8.toNat
theorem eqL_map : ∀ a b : List UInt8, eqL (a.map UInt8.toNat) (b.map UInt8.toNat) = (a == b)
  | [], [] => rfl
  | [], _ :: _ => rfl
  | _ :: _, [] => rfl
  | a :: x, b :: y => by
    have h : Nat.beq a.toNat b.toNat = (a == b) := by
      rw [Bool.eq_iff_iff, Nat.beq_eq, beq_iff_eq]
      exact UInt8.toNat_inj
    simp only [List.map_cons, eqL, eqL_map x y, h, List.cons_beq_cons]
theorem ltL_map : ∀ a b : List UInt8, ltL (a.map UInt8.toNat) (b.map UInt8.toNat) = Op.bytesLess a b
  | [], [] => rfl
  | [], _ :: _ => rfl
  | _ :: _, [] => rfl
  | a :: x, b :: y => by
    have h : Nat.beq a.toNat b.toNat = (a == b) := by
      rw [Bool.eq_iff_iff, Nat.beq_eq, beq_iff_eq]
      exact UInt8.toNat_inj
    have h2 : Nat.blt a.toNat b.toNat = decide (a < b) := by
      rw [Bool.eq_iff_iff]
      simp only [Nat.blt, Nat.ble_eq, decide_eq_true_eq, UInt8.lt_iff_toNat_lt]
      omega
    simp only [List.map_cons, ltL, Op.bytesLess, ltL_map x y, h, h2]
theorem eqL_bytes (s t : ByteArray) : eqL (bytesN s) (bytesN t) = (s.toList == t.toList) := by
  rw [bytesN, bytesN, eqL_map, ByteArray.toList_eq, ByteArray.toList_eq]
theorem ltL_bytes (s t : ByteArray) : ltL (bytesN s) (bytesN t) = Op.bytesLess s.toList t.toList := by
  rw [bytesN, bytesN, ltL_map, ByteArray.toList_eq, ByteArray.toList_eq]
theorem len_bytes (s : ByteArray) : (bytesN s).length = s.size := by
  rw [bytesN, List.length_map, Lib.size_eq]
section
variable {fid : Nat → Nat} {P : Program} {m : Mp} {S : Nat → Prop} {w : World} {t : TypeId}
theorem intOp_ok {op : BinOp} {k : IntKind} {x y : Int} {v : AV} (h : intOp op k x y = some v) :
    ∃ u, (Go.binOp op t (.int k x) (.int k y)).run P w = .ok u w ∧ Rep fid m S w v u := by
  cases op <;> simp only [intOp, intCmp, Option.some.injEq] at h
  case add => subst h; exact ⟨_, by simp [Go.binOp, Op.intArith]; rfl, by simp [Rep]⟩
  case sub => subst h; exact ⟨_, by simp [Go.binOp, Op.intArith]; rfl, by simp [Rep]⟩
  case mul => subst h; exact ⟨_, by simp [Go.binOp, Op.intArith]; rfl, by simp [Rep]⟩
  case quo =>
    by_cases hy : y = 0
    · simp [hy] at h
    · simp only [hy, if_false, Option.some.injEq] at h; subst h; exact ⟨_, by simp [Go.binOp, Op.intDiv, hy]; rfl, by simp [Rep]⟩
  case rem =>
    by_cases hy : y = 0
    · simp [hy] at h
    · simp only [hy, if_false, Option.some.injEq] at h; subst h; exact ⟨_, by simp [Go.binOp, Op.intDiv, hy]; rfl, by simp [Rep]⟩
  case and => subst h; exact ⟨_, by simp [Go.binOp, Op.intBits]; rfl, by simp [Rep]⟩
  case or => subst h; exact ⟨_, by simp [Go.binOp, Op.intBits]; rfl, by simp [Rep]⟩
  case xor => subst h; exact ⟨_, by simp [Go.binOp, Op.intBits]; rfl, by simp [Rep]⟩
  case andNot => subst h; exact ⟨_, by simp [Go.binOp, Op.intBits]; rfl, by simp [Rep]⟩
  case shl => cases h
  case shr => cases h
  all_goals
    subst h
    exact ⟨_, by simp [Go.binOp, Op.intCmp]; rfl, by simp [Rep]⟩
theorem shiftOp_ok {op : BinOp} {k k' : IntKind} {x y : Int} {v : AV} (h : shiftOp op k x y = some v) :
    ∃ u, (Go.binOp op t (.int k x) (.int k' y)).run P w = .ok u w ∧ Rep fid m S w v u := by
  unfold shiftOp at h
  by_cases hy : y < 0
  · simp [hy] at h
  · simp only [hy, if_false] at h
    cases op <;> simp only [Option.some.injEq] at h
    case shl => subst h; exact ⟨_, by simp [Go.binOp, Op.shift, hy]; rfl, by simp [Rep]⟩
    case shr => subst h; exact ⟨_, by simp [Go.binOp, Op.shift, hy]; rfl, by simp [Rep]⟩
    all_goals cases h
theorem strOp_ok {op : BinOp} {x y : ByteArray} {v : AV} (h : strOp op (bytesN x) (bytesN y) = some v) :
    ∃ u, (Go.binOp op t (.string x) (.string y)).run P w = .ok u w ∧ Rep fid m S w v u := by
  cases op <;> simp only [strOp, eqL_bytes, ltL_bytes, len_bytes, Option.some.injEq] at h
  case add =>
    cases hle : Nat.ble (x.size + y.size) 9223372036854775807 with
    | false => rw [hle] at h; cases h
    | true =>
      rw [hle] at h
      simp only [cond_true, Option.some.injEq] at h
      subst h
      have hle' := Nat.le_of_ble_eq_true hle
      have hmax : ¬ (((x.size + y.size : Nat) : Int) > IntKind.i64.max) := by
        have : IntKind.i64.max = 9223372036854775807 := by decide
        rw [this]; omega
      refine ⟨.string (x ++ y), ?_, ?_⟩
      · simp only [Go.binOp, Op.stringOp, if_neg hmax, Sem.run_pure]
      · simp only [Rep]; exact ⟨x ++ y, rfl, by simp [bytesN]⟩
  all_goals first
    | (cases h; done)
    | (subst h; exact ⟨_, by simp [Go.binOp, Op.stringOp]; rfl, by simp [Rep]⟩)
theorem fltOp_ok {op : BinOp} {k : FloatKind} {x y : Nat} {v : AV} (h : fltOp op k x y = some v) :
    ∃ u, (Go.binOp op t (.float k x) (.float k y)).run P w = .ok u w ∧ Rep fid m S w v u := by
  cases op <;> simp only [fltOp, Option.some.injEq] at h
  case add =>
    cases hr : k.format.add x y with
    | none => simp [hr] at h
    | some r => simp only [hr, Option.some.injEq] at h; subst h; exact ⟨.float k r, by simp [Go.binOp, Op.floatArith, hr], by simp [Rep]⟩
  case sub =>
    cases hr : k.format.sub x y with
    | none => simp [hr] at h
    | some r => simp only [hr, Option.some.injEq] at h; subst h; exact ⟨.float k r, by simp [Go.binOp, Op.floatArith, hr], by simp [Rep]⟩
  case mul =>
    cases hr : k.format.mul x y with
    | none => simp [hr] at h
    | some r => simp only [hr, Option.some.injEq] at h; subst h; exact ⟨.float k r, by simp [Go.binOp, Op.floatArith, hr], by simp [Rep]⟩
  case quo =>
    cases hr : k.format.div x y with
    | none => simp [hr] at h
    | some r => simp only [hr, Option.some.injEq] at h; subst h; exact ⟨.float k r, by simp [Go.binOp, Op.floatArith, hr], by simp [Rep]⟩
  all_goals first
    | (cases h; done)
    | (subst h; exact ⟨_, by simp [Go.binOp, Op.floatCmp]; rfl, by simp [Rep]⟩)
theorem binOp_ok {op : BinOp} {vx vy v : AV} {x y : Value} (hx : Rep fid m S w vx x) (hy : Rep fid m S w vy y) (h : VE.binOp op vx vy = some v) :
    ∃ u, (Go.binOp op t x y).run P w = .ok u w ∧ Rep fid m S w v u := by
  unfold VE.binOp at h
  split at h
  · rename_i k a k' b
    simp only [Rep] at hx hy
    subst hx; subst hy
    split at h
    · exact shiftOp_ok h
    · exact shiftOp_ok h
    · by_cases hk : k = k'
      · subst hk; simp only [if_true] at h; exact intOp_ok h
      · simp [hk] at h
  · rename_i k a k' b
    simp only [Rep] at hx hy
    subst hx; subst hy
    by_cases hk : k = k'
    · subst hk; simp only [if_true] at h; exact fltOp_ok h
    · simp [hk] at h
  · rename_i a b
    simp only [Rep] at hx hy
    obtain ⟨s, rfl, rfl⟩ := hx
    obtain ⟨s', rfl, rfl⟩ := hy
    exact strOp_ok h
  · cases h
end
end VE
