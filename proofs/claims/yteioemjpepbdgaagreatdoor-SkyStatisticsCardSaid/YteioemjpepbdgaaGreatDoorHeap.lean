import Derived.Below
import Derived.Laws.AppendOwn
import Derived.Laws.Rows
import Derived.Test.YteioemjpepbdgaaGreatDoorRep
import Derived.Test.YteioemjpepbdgaaGreatDoorComp
set_option linter.all false
namespace VE
open Go
structure Link where
  P : Program
  lib : Lib
  fid : Nat → Nat
  prog : Prog
  hint : Nat → Hint
  w0 : World
def Cod (P : Program) (H : Hint) (v : VC) (c : Code) : Prop := ∃ l k, (comp P H c l k).1 = v
def stOf : Nat → LoopState
  | 0 => .ready
  | 1 => .busy
  | 2 => .done
  | _ => .exhausted
def pendOf : Jump → Option Code
  | .none => none
  | .ret => some .ret
  | .exit id => some (.exit id)
section
variable (Λ : Link) (m : Mp) (S : Nat → Prop) (w : World)
def TRel (tm : Env) (tmps : Array Value) : Prop := ∀ i, Rep Λ.fid m S w (tget tm i) (tmps.getD i undef)
def ORel (id : Nat) : Obj → Prop
  | .cells rw pu ex sz cs => ∃ p arr t, m id = some p ∧ w.heap[p.b]? = some (.cells arr t (0, 0)) ∧ p.z = sz ∧ cs.length ≤ p.e ∧ p.o + p.e ≤ arr.size ∧
      (ex = true → cs.length = p.e) ∧ RepAt Λ.fid m S w cs p.b p.o ∧ (pu = true → pureL cs = true) ∧ (rw = true → ¬ S p.b) ∧ (rw = false → S p.b)
  | .mp rw ks vs => ∃ p es clock, m id = some p ∧ w.heap[p.b]? = some (.map es clock) ∧ RepL Λ.fid m S w ks (es.toList.map (·.key)) ∧ RepL Λ.fid m S w vs (es.toList.map (·.val)) ∧
      (rw = true → ¬ S p.b) ∧ (rw = false → S p.b)
  | .si s pos => ∃ p t, m id = some p ∧ w.heap[p.b]? = some (.stringIter t pos) ∧ t.data.toList.map UInt8.toNat = s ∧ ¬ S p.b
  | .lp tm ps as_ body st pe => ∃ p l h, m id = some p ∧ w.heap[p.b]? = some (.loop l) ∧ ¬ S p.b ∧ l.state = stOf st ∧ st ≤ 2 ∧ l.pending = pendOf pe ∧ TRel Λ m S w tm l.tmps ∧
      l.params.toList = ps ∧ Cod Λ.P (Λ.hint h) as_ l.assign ∧ Cod Λ.P (Λ.hint h) body l.body ∧ (Λ.hint h).n ≤ l.tmps.size ∧ allLt (Λ.hint h).n ps = true
structure HRel (hp : Hp) (ct : Nat) : Prop where
  obj : ∀ id o p, hget hp id = some o → m id = some p → ORel Λ m S w id o
  lt : ∀ id p, m id = some p → id < ct
  inj : ∀ i j oi oj pi pj, hget hp i = some oi → hget hp j = some oj → m i = some pi → m j = some pj → pi.b = pj.b → i = j
  slt : ∀ b, S b → b < w.heap.size
  blt : ∀ id p, m id = some p → p.b < w.heap.size
  low : ∀ id p, m id = some p → Λ.w0.heap.size ≤ p.b
  good : ∀ b, b < Λ.w0.heap.size → w.heap[b]? = Λ.w0.heap[b]?
  goodS : Λ.w0.heap.size ≤ w.heap.size
  hlt : ∀ id o, hget hp id = some o → id < ct
end
def Own (m : Mp) (hp : Hp) (b : Nat) : Prop := ∃ id o p, hget hp id = some o ∧ m id = some p ∧ p.b = b
structure Fwd (m : Mp) (S : Nat → Prop) (w : World) (hp : Hp) (m' : Mp) (S' : Nat → Prop) (w' : World) (hp' : Hp) (base : Nat) : Prop where
  os : w'.os = w.os
  tape : w'.tape = w.tape
  output : w'.output = w.output
  size : w.heap.size ≤ w'.heap.size
  same : ∀ b, b < w.heap.size → ¬ Own m hp b → w'.heap[b]? = w.heap[b]?
  sub : ∀ b, S b → S' b
  still : ∀ b, S b → w'.heap[b]? = w.heap[b]?
  new : ∀ b, S' b → S b ∨ Own m hp b ∨ w.heap.size ≤ b
  own : ∀ b, Own m' hp' b → Own m hp b ∨ w.heap.size ≤ b
  old : ∀ id p, id < base → m id = some p → m' id = some p
  loops : ∀ (b : Nat) (r : Loop), w.heap[b]? = some (.loop r) → ∃ r' : Loop, w'.heap[b]? = some (.loop r')
theorem Fwd.refl {m : Mp} {S : Nat → Prop} {w : World} {hp : Hp} {base : Nat} : Fwd m S w hp m S w hp base :=
  ⟨rfl, rfl, rfl, Nat.le_refl _, fun _ _ _ => rfl, fun _ h => h, fun _ _ => rfl, fun _ h => .inl h, fun _ h => .inl h, fun _ _ _ h => h, fun _ r h => ⟨r, h⟩⟩
theorem Fwd.trans {m m' m'' : Mp} {S S' S'' : Nat → Prop} {w w' w'' : World} {hp hp' hp'' : Hp} {base : Nat}
    (h : Fwd m S w hp m' S' w' hp' base) (k : Fwd m' S' w' hp' m'' S'' w'' hp'' base) : Fwd m S w hp m'' S'' w'' hp'' base where
  os := k.os.trans h.os
  tape := k.tape.trans h.tape
  output := k.output.trans h.output
  size := Nat.le_trans h.size k.size
  same b hb ho := (k.same b (Nat.lt_of_lt_of_le hb h.size) (fun ho' => (h.own b ho').elim ho (fun h1 => by omega))).trans (h.same b hb ho)
  sub b hb := k.sub b (h.sub b hb)
  still b hb := (k.still b (h.sub b hb)).trans (h.still b hb)
  new b hb := by
    rcases k.new b hb with h1 | h1 | h1
    · exact h.new b h1
    · rcases h.own b h1 with h2 | h2
      · exact .inr (.inl h2)
      · exact .inr (.inr h2)
    · exact .inr (.inr (Nat.le_trans h.size h1))
  own b hb := by
    rcases k.own b hb with h1 | h1
    · exact h.own b h1
    · exact .inr (Nat.le_trans h.size h1)
  old id p hid hp := k.old id p hid (h.old id p hid hp)
  loops b r hb := let ⟨r', h1⟩ := h.loops b r hb; k.loops b r' h1
end VE
