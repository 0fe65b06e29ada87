import Derived.WalkKit
import Derived.Test.YteioemjpepbdgaaGreatDoorHeap
set_option linter.all false
namespace VE
open Go
section
variable {fid : Nat → Nat} {m : Mp} {S : Nat → Prop} {w : World}
mutual
theorem rep_val : ∀ v : Value, Rep fid m S w (valAV v) v
  | .int _ _ | .bool _ | .float _ _ => by simp only [valAV, Rep]
  | .string s => by simp only [valAV, Rep]; exact ⟨s, rfl, rfl⟩
  | .pointer none => by simp only [valAV, Rep]
  | .pointer (some _) => by simp only [valAV, Rep]
  | .slice none 0 0 => by simp only [valAV, Rep]
  | .slice none 0 (_ + 1) => by simp only [valAV, Rep]
  | .slice none (_ + 1) _ => by simp only [valAV, Rep]
  | .slice (some _) _ _ => by simp only [valAV, Rep]
  | .map none => by simp only [valAV, Rep]
  | .map (some _) => by simp only [valAV, Rep]
  | .nilFunc => by simp only [valAV, Rep]
  | .agg ⟨cs⟩ => by simp only [valAV, Rep]; exact ⟨⟨cs⟩, rfl, rep_vals cs⟩
  | .tuple ⟨cs⟩ => by simp only [valAV, Rep]; exact ⟨⟨cs⟩, rfl, rep_vals cs⟩
  | .complex _ _ _ | .chan _ | .func _ _ _ | .iface _ _ | .nilIface => by simp only [valAV, Rep]
theorem rep_vals : ∀ l : List Value, RepL fid m S w (valAVs l) l
  | [] => by simp only [valAVs, RepL]
  | v :: r => by simp only [valAVs, RepL]; exact ⟨v, r, rfl, rep_val v, rep_vals r⟩
end
end
def HintOk (Λ : Link) (H : Hint) : Prop := ∀ f g, H.ren f = some g → Λ.fid g = f
section
variable {Λ : Link} {H : Hint} {m : Mp} {S : Nat → Prop} {w : World} {tm : Env} {a : Act}
theorem rep_x (hH : HintOk Λ H) (ht : TRel Λ m S w tm a.tmps) (x : Operand) : Rep Λ.fid m S w (xget tm (opX H x)) (a.eval x) := by
  cases x with
  | tmp t => exact ht t
  | const v => simp only [opX, xget, Act.eval]; exact rep_val v
  | global g => simp only [opX, xget, Rep]
  | func f =>
    simp only [opX, Act.eval]
    cases hr : H.ren f with
    | none => simp only [xget, Rep]
    | some g => simp only [xget, Rep, hH f g hr, RepL]; exact ⟨#[], #[], rfl, rfl, rfl⟩
theorem rep_xs (hH : HintOk Λ H) (ht : TRel Λ m S w tm a.tmps) : ∀ l : List Operand, RepL Λ.fid m S w (xgets tm (opXs H l)) (l.map a.eval)
  | [] => by simp only [opXs, xgets, List.map_nil, RepL]
  | x :: r => by simp only [opXs, xgets, List.map_cons, RepL]; exact ⟨_, _, rfl, rep_x hH ht x, rep_xs hH ht r⟩
end
section
variable {Λ : Link} {m : Mp} {S : Nat → Prop} {w : World}
theorem repAt_drop {fid : Nat → Nat} : ∀ (k : Nat) (cs : List AV) (b o : Nat), RepAt fid m S w cs b o → RepAt fid m S w (cs.drop k) b (o + k)
  | 0, cs, b, o, h => by simpa using h
  | k + 1, [], b, o, _ => by simp only [List.drop_nil, RepAt]
  | k + 1, c :: cs, b, o, h => by
    simp only [RepAt] at h
    have := repAt_drop k cs b (o + 1) h.2
    rw [List.drop_succ_cons, show o + (k + 1) = o + 1 + k by omega]
    exact this
theorem repAt_take {fid : Nat → Nat} : ∀ (k : Nat) (cs : List AV) (b o : Nat), RepAt fid m S w cs b o → RepAt fid m S w (cs.take k) b o
  | 0, cs, b, o, _ => by simp only [List.take_zero, RepAt]
  | k + 1, [], b, o, _ => by simp only [List.take_nil, RepAt]
  | k + 1, c :: cs, b, o, h => by
    simp only [RepAt, List.take_succ_cons] at h ⊢
    exact ⟨h.1, repAt_take k cs b (o + 1) h.2⟩
theorem repAt_vals {fid : Nat → Nat} : ∀ (cs : List AV) (b o : Nat), RepAt fid m S w cs b o →
    ∃ us : List Value, RepL fid m S w cs us ∧ us.length = cs.length ∧ ∀ j u, us[j]? = some u → w.cell? ⟨b, o + j, none⟩ = some u
  | [], b, o, _ => ⟨[], by simp only [RepL], rfl, fun j u h => by simp at h⟩
  | c :: cs, b, o, h => by
    simp only [RepAt] at h
    obtain ⟨⟨u, h1, h2⟩, h3⟩ := h
    obtain ⟨us, h4, h5, h6⟩ := repAt_vals cs b (o + 1) h3
    refine ⟨u :: us, by simp only [RepL]; exact ⟨u, us, rfl, h2, h4⟩, by simp [h5], fun j v hv => ?_⟩
    cases j with
    | zero => simp at hv; subst hv; simpa using h1
    | succ j => simp at hv; have := h6 j v hv; rw [show o + (j + 1) = o + 1 + j by omega]; exact this
theorem repL_len {fid : Nat → Nat} : ∀ (cs : List AV) (us : List Value), RepL fid m S w cs us → us.length = cs.length
  | [], us, h => by simp only [RepL] at h; subst h; rfl
  | c :: cs, us, h => by
    simp only [RepL] at h
    obtain ⟨u, r, rfl, _, h3⟩ := h
    simp [repL_len cs r h3]
end
end VE
