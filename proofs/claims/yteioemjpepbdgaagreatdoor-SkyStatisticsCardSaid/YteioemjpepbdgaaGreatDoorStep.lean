import Derived.RangeFuncLeaves
import Derived.Test.YteioemjpepbdgaaGreatDoorSpec
set_option linter.all false
section
namespace VE
open Go
def WF (ro : Option Nat) : Fence := { Fence.wide with round := ro }
section
variable {Λ : Link}
def RoundC (Λ : Link) (hp : Hp) (ct : Nat) (l : Nat) (xs : List AV) (v : AV) (hp' : Hp) (ct' : Nat) : Prop :=
  ∀ (m : Mp) (S : Nat → Prop) (w : World) (args : Array Value) (p : Pl), HRel Λ m S w hp ct → m l = some p → RepL Λ.fid m S w xs args.toList →
    ∃ f tmps assign body, (Instr.yield p.b args).run Λ.P w = .ok (.round p.b f tmps assign body) w ∧ RoundIn Fence.wide 0 Λ.P p.b f tmps assign body w (HeapPost Λ m S w hp ct v hp' ct')
structure Callees (Λ : Link) (run : Run) : Prop where
  pure : ∀ n vals r, callPure Λ.prog Λ.lib run n vals = some r → PureC Λ n vals r
  heap : ∀ hp ct n vals v hp' ct', evHeap Λ.prog Λ.lib run hp ct n vals = some (v, hp', ct') → HeapC Λ n hp ct vals v hp' ct'
  round : ∀ hp ct l xs v hp' ct', evRound run hp ct l xs = some (v, hp', ct') → RoundC Λ hp ct l xs v hp' ct'
end
section
variable {P : Program} {o : Oper} {a : Act} {w : World} {ro : Option Nat} {next : Act → World → Prop} {Q : Exit → Act → World → Prop}
theorem wp_invoked {c : Call} {f : Operand} (ho : o.op = .call c) (hc : c.callee = .value f) {g : FuncId} {fi ca : Array Value} (hf : a.eval f = .func (.func g) fi ca) {R : Ending → World → Prop}
    (h : Invoked P g (fi ++ c.args.map a.eval ++ ca) w R) (hn : ∀ e w', R e w' → ∃ u, e = .returned u ∧ next (a.put o.dst u) w') : o.wpIn (WF ro) 0 P a w next Q := by
  have hrun : (o.semAt ro a.eval).run P w = (callFunc g (fi ++ c.args.map a.eval ++ ca)).run P w := by
    rw [Oper.semAt_eq _ _ _ (fun c' h' => by rw [ho] at h'; cases h')]
    simp only [execOp, ho, resolve, hc, Deferred.ofValue, hf, Sem.run_bind, Sem.run_pure, Result.andThen_ok, invoke]
  refine ⟨fun _ _ => trivial, ?_⟩
  show o.uponIn (WF ro) 0 P a next Q ((o.semAt ro a.eval).run P w)
  rw [hrun]
  rcases h with ⟨h1, h2⟩ | ⟨u, w', h1, h2⟩
  · rw [h1, Oper.uponIn_enter]
    refine ⟨fun h => by simp [WF, Fence.wide] at h, ?_⟩
    have h3 : CallsIn (WF ro) 0 P g (fi ++ c.args.map a.eval ++ ca) w R := h2
    refine CallsIn.mono h3 (fun e w' he => ?_)
    obtain ⟨u, rfl, hq⟩ := hn e w' he
    exact hq
  · rw [h1]
    obtain ⟨u', e, hq⟩ := hn _ _ h2
    injection e with e
    subst e
    exact hq
theorem wp_round {c : Call} {f : Operand} (ho : o.op = .call c) (hc : c.callee = .value f) {l : Nat} (hf : a.eval f = .func (.yield l) #[] #[]) {R : Ending → World → Prop} {g : FuncId} {tmps : Array Value} {assign body : Code}
    (hy : (Instr.yield l (c.args.map a.eval)).run P w = .ok (.round l g tmps assign body) w) (h : RoundIn Fence.wide 0 P l g tmps assign body w R) (hn : ∀ e w', R e w' → ∃ u, e = .returned u ∧ next (a.put o.dst u) w') : o.wpIn (WF ro) 0 P a w next Q := by
  have hrun : (o.semAt ro a.eval).run P w = .ok (.round l g tmps assign body) w := by
    rw [Oper.semAt_eq _ _ _ (fun c' h' => by rw [ho] at h'; cases h')]
    simp only [execOp, ho, resolve, hc, Deferred.ofValue, hf, Sem.run_bind, Sem.run_pure, Result.andThen_ok, invoke, Array.empty_append]
    exact hy
  refine ⟨fun _ _ => trivial, ?_⟩
  show o.uponIn (WF ro) 0 P a next Q ((o.semAt ro a.eval).run P w)
  rw [hrun, Oper.uponIn_round]
  refine ⟨fun h => by simp [WF, Fence.wide] at h, ?_⟩
  have h3 : RoundIn (WF ro) 0 P l g tmps assign body w R := h
  refine RoundIn.mono h3 (fun e w' he => ?_)
  obtain ⟨u, rfl, hq⟩ := hn e w' he
  exact hq
theorem wp_now {n : Next} {u : Value} {w' : World} (hd : ∀ c, o.op ≠ .defer c) (h : (execOp a.eval o).run P w = .ok n w') (hn : n = .value u ∨ (n = .skip ∧ u = undef)) (hq : next (a.put o.dst u) w') : o.wpIn (WF ro) 0 P a w next Q := by
  refine ⟨fun _ _ => trivial, ?_⟩
  show o.uponIn (WF ro) 0 P a next Q ((o.semAt ro a.eval).run P w)
  rw [Oper.semAt_eq _ _ _ hd, h]
  rcases hn with rfl | ⟨rfl, rfl⟩
  · exact hq
  · exact hq
end
def OpOf (P : Program) (H : Hint) (q : Op) (o : Oper) : Prop :=
  (∃ k, q = compOp P H k o) ∨ (∃ c f rs, o.op = .call c ∧ c.callee = .value f ∧ q = .calld rs (opX H f) (opXs H c.args.toList)) ∨
    ∃ t x y sz rs, o.op = .store t x y ∧ szT P t = some sz ∧ q = .std rs sz (opX H x) (opX H y)
def strip : Op → Op
  | .calld _ f xs => .calld [] f xs
  | .std _ s x v => .st s x v
  | o => o
section
variable {Λ : Link} {H : Hint} {m : Mp} {S : Nat → Prop} {w : World} {tm : Env} {a : Act} {hp : Hp} {ct : Nat} {self : Run} {ro : Option Nat} {next : Act → World → Prop} {Q : Exit → Act → World → Prop}
theorem call_of {o : Oper} {k : Nat} {md : Md} {x : X} {xs : List X} (h : compOp Λ.P H k o = .call md x xs) (hb : x ≠ .c .undef) : ∃ c f, o.op = .call c ∧ c.callee = .value f ∧ x = opX H f ∧ xs = opXs H c.args.toList := by
  have nb : bad = .call md x xs → False := fun h => by simp only [bad, Op.call.injEq] at h; exact hb h.2.1.symm
  cases ho : o.op with
  | call c =>
    obtain ⟨callee, args, ts⟩ := c
    simp only [compOp, ho] at h
    split at h
    · rename_i f
      cases hm : H.mode k <;> simp only [hm, Op.call.injEq, reduceCtorEq] at h
      all_goals exact ⟨_, f, rfl, rfl, h.2.1.symm, h.2.2.symm⟩
    · repeat' split at h
      all_goals first
        | exact (nb h).elim
        | (cases h; done)
        | (revert h; generalize Nat.beq _ _ = bb; intro h; cases bb <;> first | exact (nb h).elim | (cases h; done))
    · exact (nb h).elim
  | binOp op t x' y ty =>
    cases op <;> simp only [compOp, ho, compEq, compAgg] at h
    case eql => repeat' split at h
                all_goals first
                  | exact (nb h).elim
                  | (cases h; done)
                  | (cases hb' : (Λ.P.stoodInHeld t || Λ.P.eqGuardType Λ.P.depth t) <;> rw [hb'] at h <;> first | exact (nb h).elim | (cases h; done))
    case neq => repeat' split at h
                all_goals first
                  | exact (nb h).elim
                  | (cases h; done)
                  | (cases hb' : (Λ.P.stoodInHeld t || Λ.P.eqGuardType Λ.P.depth t) <;> rw [hb'] at h <;> first | exact (nb h).elim | (cases h; done))
    all_goals cases h
  | buildSlice t n parts =>
    simp only [compOp, ho] at h
    repeat' split at h
    all_goals first
      | exact (nb h).elim
      | (cases h; done)
      | (revert h; generalize Nat.ble _ _ = bb; intro h; cases bb <;> first | exact (nb h).elim | (simp only [cond_true] at h; cases h; done))
  | makeMap t r =>
    cases r <;> simp only [compOp, ho] at h
    · repeat' split at h
      all_goals first
        | exact (nb h).elim
        | (cases h; done)
    · exact (nb h).elim
  | next x' b =>
    cases b <;> simp only [compOp, ho] at h
    · exact (nb h).elim
    · cases h
  | _ =>
    simp only [compOp, ho] at h
    (repeat' split at h)
    all_goals first
      | contradiction
      | exact (nb h).elim
      | (cases h; done)
theorem op_nodefer {o : Oper} {k : Nat} {r : AV × Hp × Nat} (hv : evOp Λ.prog Λ.lib self tm hp ct (compOp Λ.P H k o) = some r) : ∀ c, o.op ≠ .defer c := by
  intro c ho
  simp [compOp, ho, bad, evOp, evCall, xget] at hv
end
end VE
end
section
namespace VE
open Go
section
variable {Λ : Link} {H : Hint} {m : Mp} {S : Nat → Prop} {w : World} {tm : Env} {a : Act} {hp hp' Hq : Hp} {ct ct' cH : Nat} {self : Run} {ro : Option Nat} {next : Act → World → Prop} {Q : Exit → Act → World → Prop}
theorem fwd_alloc {g : Go.Obj} {p : Pl} {S' : Nat → Prop} {base : Nat} (hh : HRel Λ m S w Hq cH) (hi : m ct = none) (hb : p.b = w.heap.size) (h1 : ∀ b, S b → S' b) (h2 : ∀ b, S' b → S b ∨ b = w.heap.size) :
    Fwd m S w Hq (addM m ct p) S' (w.alloc g) Hq base where
  os := rfl
  tape := rfl
  output := rfl
  size := by simp
  same b hb _ := alloc_old hb
  sub := h1
  still b hb := alloc_old (hh.slt b hb)
  new b hb := (h2 b hb).imp (fun h => h) (fun h => .inr (by omega))
  own b hb := by
    obtain ⟨i, o, q, g1, g2, g3⟩ := hb
    by_cases hc : i = ct
    · subst hc
      rw [addM_same] at g2
      injection g2 with g2
      subst g2
      exact .inr (by omega)
    · rw [addM_other hc] at g2; exact .inl ⟨i, o, q, g1, g2, g3⟩
  old i q _ h := addM_le hi i q h
  loops b r hb := ⟨r, (alloc_old (Array.getElem?_eq_some_iff.1 hb).1).trans hb⟩
theorem frozen_vals {vals0 vals : List AV} {us : List Value} {hp1 : Hp} (hz : freezeL deep hp vals0 = some (vals, hp1)) (hl : HLe hp1 Hq) (hh : HRel Λ m S w Hq cH) (hr : RepL Λ.fid m S w vals0 us) : RepL Λ.fid noM S w vals us ∧ pureL vals = true := by
  obtain ⟨_, _, h3⟩ := freezeL_ok (Λ := Λ) hz
  obtain ⟨k1, k2⟩ := h3 Hq m S w cH hl hh
  exact ⟨repL_pure (fun _ h => h) (fun _ _ => rfl) _ _ k2 (k1 us hr), k2⟩
theorem good_of (hh : HRel Λ m S w Hq cH) : GoodW Λ w := ⟨hh.good, hh.goodS⟩
theorem rep_args (hH : HintOk Λ H) (ht : TRel Λ m S w tm a.tmps) {f : Operand} {g : Nat} {first cap : List AV} {args : Array Operand} (hf : xget tm (opX H f) = .fn (.f g) first cap) :
    ∃ fi ca : Array Value, a.eval f = .func (.func (Λ.fid g)) fi ca ∧ RepL Λ.fid m S w (first ++ (xgets tm (opXs H args.toList) ++ cap)) (fi ++ args.map a.eval ++ ca).toList := by
  have rf := rep_x hH ht f
  rw [hf] at rf
  simp only [Rep] at rf
  obtain ⟨fi, ca, h1, h2, h3⟩ := rf
  refine ⟨fi, ca, h1, ?_⟩
  have := repL_append h2 (repL_append (rep_xs hH ht args.toList) h3)
  simpa using this
theorem quiet_pure (hC : Callees Λ self) (hH : HintOk Λ H) {o : Oper} {c : Call} {f : Operand} (ho : o.op = .call c) (hcf : c.callee = .value f) {g : Nat} {first cap vals : List AV} {hp1 : Hp} {r : AV}
    (hf : xget tm (opX H f) = .fn (.f g) first cap) (hz : freezeL deep hp (first ++ (xgets tm (opXs H c.args.toList) ++ cap)) = some (vals, hp1)) (hr : callPure Λ.prog Λ.lib self g vals = some r)
    (hl : HLe hp1 Hq) (ht : TRel Λ m S w tm a.tmps) (hh : HRel Λ m S w Hq cH)
    (hn : ∀ u S' w', HRel Λ m S' w' Hq cH → Rep Λ.fid m S' w' (shut r) u → Fwd m S w Hq m S' w' Hq cH → next (a.put o.dst u) w') : o.wpIn (WF ro) 0 Λ.P a w next Q := by
  obtain ⟨fi, ca, h1, h2⟩ := rep_args hH ht (args := c.args) hf
  obtain ⟨h3, h4⟩ := frozen_vals hz hl hh h2
  refine wp_invoked ho hcf h1 (hC.pure g vals r hr w S _ (good_of hh) hh.slt h3 h4) ?_
  rintro e w' ⟨u, S', rfl, hw, g1, g2, g3, g4⟩
  refine ⟨u, rfl, ?_⟩
  obtain ⟨S2, k1, k2, k3⟩ := resV_shut g4 m
  have hS : ∀ b, S b → S2 b := fun b hb => k1 b (g1 b hb)
  have hS' : ∀ b, S2 b → S b ∨ w.heap.size ≤ b := fun b hb => (k2 b hb).elim (g2 b) (fun h => .inr h.1)
  have hl : ∀ b, S2 b → b < w'.heap.size := fun b hb => (k2 b hb).elim (g3 b) (fun h => h.2)
  exact hn u S2 w' (hrel_calm hh hw hS hS' hl) k3 (fwd_calm hh hw hS hS')
theorem quiet_own (hC : Callees Λ self) (hH : HintOk Λ H) {o : Oper} {c : Call} {f : Operand} (ho : o.op = .call c) (hcf : c.callee = .value f) {g : Nat} {first cap vals : List AV} {hp1 : Hp} {r : AV}
    (hf : xget tm (opX H f) = .fn (.f g) first cap) (hz : freezeL deep hp (first ++ (xgets tm (opXs H c.args.toList) ++ cap)) = some (vals, hp1)) (hr : callPure Λ.prog Λ.lib self g vals = some r)
    (hl : HLe (own hp1 ct r).2.1 Hq) (hct : (own hp1 ct r).2.2 ≤ cH) (hlt : ∀ id o, hget hp id = some o → id < ct) (hnn : ∀ id, ct ≤ id → id < (own hp1 ct r).2.2 → m id = none)
    (ht : TRel Λ m S w tm a.tmps) (hh : HRel Λ m S w Hq cH)
    (hn : ∀ u m' S' w', HRel Λ m' S' w' Hq cH → MLe m m' → (∀ id p, m' id = some p → m id = some p ∨ (ct ≤ id ∧ id < (own hp1 ct r).2.2)) → Rep Λ.fid m' S' w' (own hp1 ct r).1 u → Fwd m S w Hq m' S' w' Hq cH → next (a.put o.dst u) w') :
    o.wpIn (WF ro) 0 Λ.P a w next Q := by
  obtain ⟨fi, ca, h1, h2⟩ := rep_args hH ht (args := c.args) hf
  obtain ⟨z1, z2, z3⟩ := freezeL_ok (Λ := Λ) hz
  have hlt1 : ∀ id o, hget hp1 id = some o → id < ct := fun id o h => by
    have := z2 id
    rw [h] at this
    cases hq : hget hp id with
    | none => rw [hq] at this; cases this
    | some q => exact hlt id q hq
  have hp1own : ∀ id o, hget hp1 id = some o → hget (own hp1 ct r).2.1 id = some o := fun id o h => by
    cases r with
    | tup vs => exact ownL_hp hlt1 id o h
    | _ => exact own1_hp hlt1 id o h
  have hl1 : HLe hp1 Hq := fun id o h => hl id o (hp1own id o h)
  obtain ⟨h3, h4⟩ := frozen_vals hz hl1 hh h2
  refine wp_invoked ho hcf h1 (hC.pure g vals r hr w S _ (good_of hh) hh.slt h3 h4) ?_
  rintro e w' ⟨u, S', rfl, hw, g1, g2, g3, g4⟩
  refine ⟨u, rfl, ?_⟩
  have hh' := hrel_calm hh hw g1 g2 g3
  have hf' := fwd_calm (base := cH) hh hw g1 g2
  obtain ⟨m', S2, k1, k2, k3, k4, k5, k6⟩ := own_ok (lo := w.heap.size) hh' hl hct hlt1 hnn g4 hh.goodS (fun j q hq => hh.blt j q hq)
  refine hn u m' S2 w' k1 k2 (fun id p h => (k3 id p h).imp (fun h => h) (fun h => ⟨h.1, h.2.1⟩)) k4 ⟨hw.os, hw.tape, hw.output, hw.size, fun b hb _ => hw.same b hb, fun b hb => k5 b (g1 b hb), fun b hb => hw.same b (hh.slt b hb), ?_, ?_, fun i q _ h => k2 i q h, hf'.loops⟩
  · intro b hb
    rcases k6 b hb with h | h
    · exact (g2 b h).imp (fun h => h) .inr
    · exact .inr (.inr h)
  · rintro b ⟨i, ob, q, q1, q2, q3⟩
    rcases k3 i q q2 with h | h
    · exact .inl ⟨i, ob, q, q1, h, q3⟩
    · exact .inr (by have := h.2.2; omega)
theorem quiet_step (hC : Callees Λ self) (hH : HintOk Λ H) {o : Oper} {q : Op} {v : AV} (hk : kindOp q ≤ 1) (hq : OpOf Λ.P H q o) (hd : ∀ c, o.op ≠ .defer c) (hv : evOp Λ.prog Λ.lib self tm hp ct q = some (v, hp', ct')) (hl : HLe hp' Hq) (hct : ct' ≤ cH)
    (hlt : ∀ id o, hget hp id = some o → id < ct) (hnn : ∀ id, ct ≤ id → id < ct' → m id = none) (ht : TRel Λ m S w tm a.tmps) (hh : HRel Λ m S w Hq cH)
    (hn : ∀ u m' S' w', HRel Λ m' S' w' Hq cH → MLe m m' → (∀ id p, m' id = some p → m id = some p ∨ (ct ≤ id ∧ id < ct')) → Rep Λ.fid m' S' w' v u → Fwd m S w Hq m' S' w' Hq cH → next (a.put o.dst u) w') :
    o.wpIn (WF ro) 0 Λ.P a w next Q := by
  have hop : ∃ k, q = compOp Λ.P H k o := by
    rcases hq with h | ⟨c, f, rs, _, _, rfl⟩ | ⟨_, _, _, _, _, _, _, rfl⟩
    · exact h
    · simp [kindOp] at hk
    · simp [kindOp] at hk
  obtain ⟨k, hq⟩ := hop
  have read : ∀ {v : AV}, evRead tm hp q = some v → HLe hp Hq → (∀ u m' S' w', HRel Λ m' S' w' Hq cH → MLe m m' → (∀ id p, m' id = some p → m id = some p ∨ (ct ≤ id ∧ id < ct')) → Rep Λ.fid m' S' w' v u → Fwd m S w Hq m' S' w' Hq cH → next (a.put o.dst u) w') → o.wpIn (WF ro) 0 Λ.P a w next Q := by
    intro v hr hl hn
    have hr' := evRead_le hl hr
    rw [hq] at hr'
    obtain ⟨u, h1, h2⟩ := read_ok hH ht hh hr'
    exact wp_now hd h1 (.inl rfl) (hn u m S w hh MLe.refl (fun _ _ h => .inl h) h2 Fwd.refl)
  have makes : ∀ {v : AV} {b : Obj}, evMake tm hp ct q = some (v, b) → HLe ((ct, b) :: hp) Hq → ct + 1 ≤ cH → m ct = none → (∀ u m' S' w', HRel Λ m' S' w' Hq cH → MLe m m' → (∀ id p, m' id = some p → m id = some p ∨ (ct ≤ id ∧ id < ct + 1)) → Rep Λ.fid m' S' w' v u → Fwd m S w Hq m' S' w' Hq cH → next (a.put o.dst u) w') → o.wpIn (WF ro) 0 Λ.P a w next Q := by
    intro v b hr hl hc hi hn
    rw [hq] at hr
    have hr' : evMake tm Hq ct (compOp Λ.P H k o) = some (v, b) := by rw [← hr]; exact evMake_uses (fun _ _ => rfl)
    obtain ⟨u, g, p, h1, h2, h3, h4⟩ := make_ok hH ht hh hr'
    obtain ⟨S', k1, k2, k3⟩ := hrel_new (i := ct) (g := g) (p := p) hh hi hc h2 (fun o' ho' => by
      obtain ⟨o'', g1, g2⟩ := hl ct b (by rw [hget_cons]; simp)
      rw [ho'] at g1
      injection g1 with g1
      subst g1
      have := orel_freeze g2 addM_same (h4 _ (addM_le hi) addM_same).1 h3
      rwa [h2] at this)
    refine wp_now hd h1 (.inl rfl) (hn u _ S' _ k1 (addM_le hi) (fun id q hq => ?_) (rep_mono (fun _ _ h => h) k2 (fun _ _ => rfl) _ _ (h4 _ (addM_le hi) addM_same).2) (fwd_alloc hh hi h2 k2 k3))
    by_cases hc : id = ct
    · exact .inr (by omega)
    · rw [addM_other hc] at hq; exact .inl hq
  have hmk : ∀ {q : Op}, (match evMake tm hp ct q with | some (v, b) => some (v, (ct, b) :: hp, ct + 1) | none => (none : Res)) = some (v, hp', ct') → ∃ b, evMake tm hp ct q = some (v, b) ∧ hp' = (ct, b) :: hp ∧ ct' = ct + 1 := by
    intro q h
    cases hm : evMake tm hp ct q with
    | none => simp [hm] at h
    | some r =>
      obtain ⟨v1, b⟩ := r
      simp only [hm, Option.some.injEq, Prod.mk.injEq] at h
      obtain ⟨rfl, rfl, rfl⟩ := h
      exact ⟨b, rfl, rfl, rfl⟩
  have hrd : ∀ {q : Op}, (match evRead tm hp q with | some v => some (v, hp, ct) | none => (none : Res)) = some (v, hp', ct') → evRead tm hp q = some v ∧ hp' = hp ∧ ct' = ct := by
    intro q h
    cases hm : evRead tm hp q with
    | none => simp [hm] at h
    | some r =>
      simp only [hm, Option.some.injEq, Prod.mk.injEq] at h
      obtain ⟨rfl, rfl, rfl⟩ := h
      exact ⟨rfl, rfl, rfl⟩
  have doMake : (∃ b, evMake tm hp ct q = some (v, b) ∧ hp' = (ct, b) :: hp ∧ ct' = ct + 1) → o.wpIn (WF ro) 0 Λ.P a w next Q := by
    rintro ⟨b, h1, rfl, rfl⟩
    exact makes h1 hl hct (hnn ct (Nat.le_refl _) (Nat.lt_succ_self _)) hn
  have doRead : (evRead tm hp q = some v ∧ hp' = hp ∧ ct' = ct) → o.wpIn (WF ro) 0 Λ.P a w next Q := by
    rintro ⟨h1, rfl, rfl⟩
    exact read h1 hl hn
  cases q with
  | st _ _ _ => simp [kindOp] at hk
  | mup _ _ _ _ => simp [kindOp] at hk
  | nxt _ => simp [kindOp] at hk
  | app _ _ _ _ => simp [kindOp] at hk
  | cpy _ _ _ => simp [kindOp] at hk
  | calld _ _ _ => simp [kindOp] at hk
  | std _ _ _ _ => simp [kindOp] at hk
  | box s x => exact doMake (hmk (by simp only [evOp] at hv; exact hv))
  | mksl n s z ps => exact doMake (hmk (by simp only [evOp] at hv; exact hv))
  | mks s b z x y => exact doMake (hmk (by simp only [evOp] at hv; exact hv))
  | mkm => exact doMake (hmk (by simp only [evOp] at hv; exact hv))
  | rng x => exact doMake (hmk (by simp only [evOp] at hv; exact hv))
  | call md x xs =>
    cases md with
    | heap => simp [kindOp] at hk
    | dyn => simp [kindOp] at hk
    | pure =>
      simp only [evOp, evCall] at hv
      split at hv
      · rename_i g first cap hx
        (try simp only at hv)
        cases hz : freezeL deep hp (first ++ (xgets tm xs ++ cap)) with
        | none => simp [hz] at hv
        | some z =>
          obtain ⟨vals, hp1⟩ := z
          simp only [hz] at hv
          cases hr : callPure Λ.prog Λ.lib self g vals with
          | none => simp [hr] at hv
          | some r =>
            simp only [hr, Option.some.injEq, Prod.mk.injEq] at hv
            obtain ⟨rfl, rfl, rfl⟩ := hv
            obtain ⟨c, f, ho, hcf, rfl, rfl⟩ := call_of hq.symm (by rintro rfl; simp [xget] at hx)
            exact quiet_pure hC hH ho hcf hx hz hr hl ht hh (fun u S' w' h1 h2 h3 => hn u m S' w' h1 MLe.refl (fun _ _ h => .inl h) h2 h3)
      · simp at hv
      · cases hv
    | own =>
      simp only [evOp, evCall] at hv
      split at hv
      · rename_i g first cap hx
        (try simp only at hv)
        cases hz : freezeL deep hp (first ++ (xgets tm xs ++ cap)) with
        | none => simp [hz] at hv
        | some z =>
          obtain ⟨vals, hp1⟩ := z
          simp only [hz] at hv
          cases hr : callPure Λ.prog Λ.lib self g vals with
          | none => simp [hr] at hv
          | some r =>
            simp only [hr, Option.some.injEq] at hv
            obtain ⟨c, f, ho, hcf, rfl, rfl⟩ := call_of hq.symm (by rintro rfl; simp [xget] at hx)
            have e1 : v = (own hp1 ct r).1 := by rw [hv]
            have e2 : hp' = (own hp1 ct r).2.1 := by rw [hv]
            have e3 : ct' = (own hp1 ct r).2.2 := by rw [hv]
            subst e1; subst e2; subst e3
            exact quiet_own hC hH ho hcf hx hz hr hl hct hlt hnn ht hh hn
      · simp at hv
      · cases hv
  | _ => exact doRead (hrd (by simp only [evOp] at hv; exact hv))
end
end VE
end
section
namespace VE
open Go
section
variable {Λ : Link} {H : Hint} {m : Mp} {S : Nat → Prop} {w : World} {tm : Env} {a : Act} {hp hp' : Hp} {ct ct' : Nat} {self : Run} {ro : Option Nat} {next : Act → World → Prop} {Q : Exit → Act → World → Prop}
theorem Fwd.weak {m' : Mp} {S' : Nat → Prop} {w' : World} {b b' : Nat} (h : Fwd m S w hp m' S' w' hp' b) (hb : b' ≤ b) : Fwd m S w hp m' S' w' hp' b' :=
  ⟨h.os, h.tape, h.output, h.size, h.same, h.sub, h.still, h.new, h.own, fun i q hi hq => h.old i q (by omega) hq, h.loops⟩
theorem own_lt {hp : Hp} {ct : Nat} {r : AV} (hlt : ∀ id o, hget hp id = some o → id < ct) : ∀ id o, hget (own hp ct r).2.1 id = some o → id < (own hp ct r).2.2 := by
  have hL : ∀ (vs : List AV) (hp : Hp) (ct : Nat), (∀ id o, hget hp id = some o → id < ct) → ∀ id o, hget (ownL hp ct vs).2.1 id = some o → id < (ownL hp ct vs).2.2 := by
    intro vs
    induction vs with
    | nil => intro hp ct h id o ho; simp only [ownL] at ho ⊢; exact h id o ho
    | cons v r ih => intro hp ct h id o ho; simp only [ownL] at ho ⊢; exact ih _ _ (own1_lt h) id o ho
  cases r with
  | tup vs => exact hL vs hp ct hlt
  | _ => exact own1_lt hlt
theorem own_le {hp : Hp} {ct : Nat} {r : AV} (hlt : ∀ id o, hget hp id = some o → id < ct) : ∀ id o, hget hp id = some o → hget (own hp ct r).2.1 id = some o := by
  cases r with
  | tup vs => exact ownL_hp hlt
  | _ => exact own1_hp hlt
theorem own_ct {hp : Hp} {ct : Nat} {r : AV} : ct ≤ (own hp ct r).2.2 := by
  cases r with
  | tup vs => exact ownL_ct
  | _ => exact own1_ct
theorem own_back {hp : Hp} {ct : Nat} {r : AV} : ∀ id o, hget (own hp ct r).2.1 id = some o → id < ct → hget hp id = some o := by
  have h1 : ∀ (hp : Hp) (ct : Nat) (r : AV) id o, hget (own1 hp ct r).2.1 id = some o → id < ct → hget hp id = some o := by
    intro hp ct r id o h hc
    cases r <;> simp only [own1] at h <;> try exact h
    rw [hget_cons, if_neg (by omega)] at h
    exact h
  have hL : ∀ (vs : List AV) (hp : Hp) (ct : Nat) id o, hget (ownL hp ct vs).2.1 id = some o → id < ct → hget hp id = some o := by
    intro vs
    induction vs with
    | nil => intro hp ct id o ho _; simp only [ownL] at ho; exact ho
    | cons v r ih => intro hp ct id o ho hc; simp only [ownL] at ho; exact h1 hp ct v id o (ih _ _ id o ho (by have := own1_ct (hp := hp) (ct := ct) (r := v); omega)) hc
  cases r with
  | tup vs => exact hL vs hp ct
  | _ => exact h1 hp ct _
structure Grows (hp : Hp) (ct : Nat) (hp' : Hp) (ct' : Nat) : Prop where
  le : HLe hp hp'
  cle : ct ≤ ct'
  lt : ∀ id o, hget hp' id = some o → id < ct'
  back : ∀ id o, hget hp' id = some o → id < ct → ∃ o', hget hp id = some o'
theorem Grows.refl (hlt : ∀ id o, hget hp id = some o → id < ct) : Grows hp ct hp ct := ⟨HLe.refl, Nat.le_refl _, hlt, fun _ o h _ => ⟨o, h⟩⟩
theorem Grows.trans {hp'' : Hp} {ct'' : Nat} (h : Grows hp ct hp' ct') (k : Grows hp' ct' hp'' ct'') : Grows hp ct hp'' ct'' :=
  ⟨h.le.trans k.le, Nat.le_trans h.cle k.cle, k.lt, fun id o ho hi => let ⟨o1, h1⟩ := k.back id o ho (Nat.lt_of_lt_of_le hi h.cle); h.back id o1 h1 hi⟩
theorem frz_grows {vals0 vals : List AV} {hp1 : Hp} (hz : freezeL deep hp vals0 = some (vals, hp1)) (hlt : ∀ id o, hget hp id = some o → id < ct) : Grows hp ct hp1 ct := by
  obtain ⟨z1, z2, _⟩ := freezeL_ok (Λ := ⟨default, ⟨fun _ => none, fun _ => none⟩, fun _ => 0, fun _ => none, fun _ => ⟨0, fun _ => none, fun _ => [], fun _ => none, fun _ => .pure, fun _ => []⟩, default⟩) hz
  have hb : ∀ id o, hget hp1 id = some o → ∃ o', hget hp id = some o' := fun id o h => by
    have := z2 id
    rw [h] at this
    cases hq : hget hp id with
    | none => rw [hq] at this; cases this
    | some q => exact ⟨q, rfl⟩
  exact ⟨z1, Nat.le_refl _, fun id o h => let ⟨o', h'⟩ := hb id o h; hlt id o' h', fun id o h _ => hb id o h⟩
theorem own_grows {r : AV} (hlt : ∀ id o, hget hp id = some o → id < ct) : Grows hp ct (own hp ct r).2.1 (own hp ct r).2.2 :=
  ⟨fun id o h => ⟨o, own_le hlt id o h, oLe.refl o⟩, own_ct, own_lt hlt, fun id o h hi => ⟨o, own_back id o h hi⟩⟩
theorem quiet_grows {P : Prog} {L : Lib} {q : Op} {v : AV} (hk : kindOp q ≤ 1) (hv : evOp P L self tm hp ct q = some (v, hp', ct')) (hlt : ∀ id o, hget hp id = some o → id < ct) : Grows hp ct hp' ct' := by
  have hmk : ∀ {q : Op}, (match evMake tm hp ct q with | some (v, b) => some (v, (ct, b) :: hp, ct + 1) | none => (none : Res)) = some (v, hp', ct') → Grows hp ct hp' ct' := by
    intro q h
    cases hm : evMake tm hp ct q with
    | none => simp [hm] at h
    | some r =>
      obtain ⟨v1, b⟩ := r
      simp only [hm, Option.some.injEq, Prod.mk.injEq] at h
      obtain ⟨rfl, rfl, rfl⟩ := h
      refine ⟨fun id o ho => ⟨o, ?_, oLe.refl o⟩, by omega, fun id o ho => ?_, fun id o ho hi => ?_⟩
      · rw [hget_cons, if_neg (by have := hlt id o ho; omega)]; exact ho
      · rw [hget_cons] at ho
        by_cases hc : ct = id
        · omega
        · simp only [hc, if_false] at ho; have := hlt id o ho; omega
      · rw [hget_cons, if_neg (by omega)] at ho; exact ⟨o, ho⟩
  have hrd : ∀ {q : Op}, (match evRead tm hp q with | some v => some (v, hp, ct) | none => (none : Res)) = some (v, hp', ct') → Grows hp ct hp' ct' := by
    intro q h
    cases hm : evRead tm hp q with
    | none => simp [hm] at h
    | some r =>
      simp only [hm, Option.some.injEq, Prod.mk.injEq] at h
      obtain ⟨rfl, rfl, rfl⟩ := h
      exact Grows.refl hlt
  cases hq' : q with
  | st _ _ _ => simp [hq', kindOp] at hk
  | mup _ _ _ _ => simp [hq', kindOp] at hk
  | nxt _ => simp [hq', kindOp] at hk
  | app _ _ _ _ => simp [hq', kindOp] at hk
  | cpy _ _ _ => simp [hq', kindOp] at hk
  | calld _ _ _ => simp [hq', kindOp] at hk
  | std _ _ _ _ => simp [hq', kindOp] at hk
  | box s x => exact hmk (q := q) (by rw [hq'] at hv ⊢; simp only [evOp] at hv; exact hv)
  | mksl n s z ps => exact hmk (q := q) (by rw [hq'] at hv ⊢; simp only [evOp] at hv; exact hv)
  | mks s b z x y => exact hmk (q := q) (by rw [hq'] at hv ⊢; simp only [evOp] at hv; exact hv)
  | mkm => exact hmk (q := q) (by rw [hq'] at hv ⊢; simp only [evOp] at hv; exact hv)
  | rng x => exact hmk (q := q) (by rw [hq'] at hv ⊢; simp only [evOp] at hv; exact hv)
  | call md x xs =>
    subst hq'
    simp only [evOp, evCall] at hv
    split at hv
    · rename_i g first cap hx
      cases md with
      | heap => simp [kindOp] at hk
      | dyn => simp [kindOp] at hk
      | pure =>
        simp only at hv
        cases hz : freezeL deep hp (first ++ (xgets tm xs ++ cap)) with
        | none => simp [hz] at hv
        | some z =>
          obtain ⟨vals, hp1⟩ := z
          simp only [hz] at hv
          cases hr : callPure P L self g vals with
          | none => simp [hr] at hv
          | some r =>
            simp only [hr, Option.some.injEq, Prod.mk.injEq] at hv
            obtain ⟨rfl, rfl, rfl⟩ := hv
            exact frz_grows hz hlt
      | own =>
        simp only at hv
        cases hz : freezeL deep hp (first ++ (xgets tm xs ++ cap)) with
        | none => simp [hz] at hv
        | some z =>
          obtain ⟨vals, hp1⟩ := z
          simp only [hz] at hv
          cases hr : callPure P L self g vals with
          | none => simp [hr] at hv
          | some r =>
            simp only [hr, Option.some.injEq] at hv
            have e2 : hp' = (own hp1 ct r).2.1 := by rw [hv]
            have e3 : ct' = (own hp1 ct r).2.2 := by rw [hv]
            subst e2; subst e3
            have g1 := frz_grows hz hlt
            exact g1.trans (own_grows g1.lt)
    · cases md with
      | heap => simp [kindOp] at hk
      | dyn => simp [kindOp] at hk
      | _ => simp at hv
    · cases hv
  | _ => exact hrd (q := q) (by rw [hq'] at hv ⊢; simp only [evOp] at hv; exact hv)
theorem grow_rel (hh : HRel Λ m S w hp ct) (hg : Grows hp ct hp' ct') : ∃ S', HRel Λ m S' w hp' ct' ∧ (∀ b, S b → S' b) ∧ (∀ b, S' b → S b ∨ Own m hp b) ∧ ∀ base, Fwd m S w hp m S' w hp' base := by
  have hd : ∀ id o p, hget hp' id = some o → m id = some p → ∃ o', hget hp id = some o' := fun id o p h hm => hg.back id o h (hh.lt id p hm)
  obtain ⟨S', g1, g2, g3⟩ := hrel_le hh hg.le hd hg.cle hg.lt
  refine ⟨S', g1, g2, g3, fun base => ⟨rfl, rfl, rfl, Nat.le_refl _, fun _ _ _ => rfl, g2, fun _ _ => rfl, fun b hb => (g3 b hb).imp (fun h => h) .inl, ?_, fun _ _ _ h => h, fun _ r h => ⟨r, h⟩⟩⟩
  rintro b ⟨i, o, p, h1, h2, h3⟩
  obtain ⟨o', h4⟩ := hd i o p h1 h2
  exact .inl ⟨i, o', p, h4, h2, h3⟩
theorem cond_some {b : Bool} {x y : Res} {r : AV × Hp × Nat} (h : (bif b then x else y) = some r) : x = some r ∨ y = some r := by
  cases b
  · exact .inr h
  · exact .inl h
theorem write_ct {q : Op} {v : AV} (hv : evWrite tm hp ct q = some (v, hp', ct')) : ct ≤ ct' := by
  have fin : ∀ {x : AV} {y : Hp} {z : Nat}, ct ≤ z → some (x, y, z) = some (v, hp', ct') → ct ≤ ct' := by
    intro x y z h1 h2
    simp only [Option.some.injEq, Prod.mk.injEq] at h2
    omega
  cases q <;> simp only [evWrite, reduceCtorEq] at hv
  all_goals
    repeat' split at hv
    all_goals first
      | (cases hv; done)
      | exact fin (Nat.le_refl _) hv
      | exact fin (Nat.le_succ _) hv
      | (rcases cond_some hv with hv | hv <;> first
          | (cases hv; done)
          | exact fin (Nat.le_refl _) hv
          | exact fin (Nat.le_succ _) hv
          | (rcases cond_some hv with hv | hv <;> first
              | (cases hv; done)
              | exact fin (Nat.le_refl _) hv
              | exact fin (Nat.le_succ _) hv)
          | (split at hv <;> first
              | (cases hv; done)
              | exact fin (Nat.le_refl _) hv
              | exact fin (Nat.le_succ _) hv))
theorem calld_of {P : Program} {H : Hint} {o : Oper} {rs : List (Nat × Bool × Nat)} {x : X} {xs : List X} (hq : OpOf P H (.calld rs x xs) o) : ∃ c f, o.op = .call c ∧ c.callee = .value f ∧ x = opX H f ∧ xs = opXs H c.args.toList := by
  rcases hq with ⟨k, hk⟩ | ⟨c, f, rs', h1, h2, h3⟩ | ⟨_, _, _, _, _, _, _, h3⟩
  · cases ho : o.op with
    | call c =>
      obtain ⟨callee, args, ts⟩ := c
      simp only [compOp, ho] at hk
      split at hk
      · rename_i f
        cases hm : H.mode k <;> simp only [hm, Op.calld.injEq, reduceCtorEq] at hk
        exact ⟨_, f, rfl, rfl, hk.2.1, hk.2.2⟩
      · repeat' split at hk
        all_goals first
          | (cases hk; done)
          | (simp only [bad] at hk; cases hk; done)
          | (revert hk; generalize Nat.beq _ _ = bb; intro hk; cases bb <;> simp [bad] at hk)
      · simp only [bad] at hk; cases hk
    | binOp op t x' y ty =>
      cases op <;> simp only [compOp, ho, compEq, compAgg] at hk
      case eql => repeat' split at hk
                  all_goals first
                    | (cases hk; done)
                    | (simp only [bad] at hk; cases hk; done)
                    | (cases hb' : (P.stoodInHeld t || P.eqGuardType P.depth t) <;> rw [hb'] at hk <;> simp [bad] at hk)
      case neq => repeat' split at hk
                  all_goals first
                    | (cases hk; done)
                    | (simp only [bad] at hk; cases hk; done)
                    | (cases hb' : (P.stoodInHeld t || P.eqGuardType P.depth t) <;> rw [hb'] at hk <;> simp [bad] at hk)
      all_goals cases hk
    | buildSlice t n parts =>
      simp only [compOp, ho] at hk
      repeat' split at hk
      all_goals first
        | (cases hk; done)
        | (simp only [bad] at hk; cases hk; done)
        | (revert hk; generalize Nat.ble _ _ = bb; intro hk; cases bb <;> simp [bad] at hk)
    | makeMap t r =>
      cases r <;> simp only [compOp, ho] at hk
      · repeat' split at hk
        all_goals first
          | (cases hk; done)
          | (simp only [bad] at hk; cases hk; done)
      · simp only [bad] at hk; cases hk
    | next x' b =>
      cases b <;> simp only [compOp, ho] at hk
      · simp only [bad] at hk; cases hk
      · cases hk
    | _ =>
      simp only [compOp, ho] at hk
      (repeat' split at hk)
      all_goals first
        | contradiction
        | (cases hk; done)
        | (simp only [bad] at hk; cases hk; done)
  · simp only [Op.calld.injEq] at h3
    exact ⟨c, f, h1, h2, h3.2.1, h3.2.2⟩
  · cases h3
theorem compOp_std {P : Program} {H : Hint} {o : Oper} {k : Nat} {rs : List (Nat × Bool × Nat)} {sz : Nat} {x y : X} (hk : Op.std rs sz x y = compOp P H k o) : False := by
  cases ho : o.op with
  | call c =>
    obtain ⟨callee, args, ts⟩ := c
    simp only [compOp, ho] at hk
    split at hk
    · rename_i f
      cases hm : H.mode k <;> simp only [hm, reduceCtorEq] at hk
    · repeat' split at hk
      all_goals first
        | (cases hk; done)
        | (simp only [bad] at hk; cases hk; done)
        | (revert hk; generalize Nat.beq _ _ = bb; intro hk; cases bb <;> simp [bad] at hk)
    · simp only [bad] at hk; cases hk
  | binOp op t x' y ty =>
    cases op <;> simp only [compOp, ho, compEq, compAgg] at hk
    case eql => repeat' split at hk
                all_goals first
                  | (cases hk; done)
                  | (simp only [bad] at hk; cases hk; done)
                  | (cases hb' : (P.stoodInHeld t || P.eqGuardType P.depth t) <;> rw [hb'] at hk <;> simp [bad] at hk)
    case neq => repeat' split at hk
                all_goals first
                  | (cases hk; done)
                  | (simp only [bad] at hk; cases hk; done)
                  | (cases hb' : (P.stoodInHeld t || P.eqGuardType P.depth t) <;> rw [hb'] at hk <;> simp [bad] at hk)
    all_goals cases hk
  | buildSlice t n parts =>
    simp only [compOp, ho] at hk
    repeat' split at hk
    all_goals first
      | (cases hk; done)
      | (simp only [bad] at hk; cases hk; done)
      | (revert hk; generalize Nat.ble _ _ = bb; intro hk; cases bb <;> simp [bad] at hk)
  | makeMap t r =>
    cases r <;> simp only [compOp, ho] at hk
    · repeat' split at hk
      all_goals first
        | (cases hk; done)
        | (simp only [bad] at hk; cases hk; done)
    · simp only [bad] at hk; cases hk
  | next x' b =>
    cases b <;> simp only [compOp, ho] at hk
    · simp only [bad] at hk; cases hk
    · cases hk
  | _ =>
    simp only [compOp, ho] at hk
    (repeat' split at hk)
    all_goals first
      | contradiction
      | (cases hk; done)
      | (simp only [bad] at hk; cases hk; done)
theorem st_of {P : Program} {H : Hint} {o : Oper} {sz : Nat} {x y : X} (hq : OpOf P H (.st sz x y) o) : ∃ t x' y', o.op = .store t x' y' ∧ szT P t = some sz ∧ x = opX H x' ∧ y = opX H y' := by
  obtain ⟨k, hk⟩ : ∃ k, Op.st sz x y = compOp P H k o := by
    rcases hq with h | ⟨_, _, _, _, _, h⟩ | ⟨_, _, _, _, _, _, _, h⟩
    · exact h
    · cases h
    · cases h
  cases ho : o.op with
  | call c =>
    obtain ⟨callee, args, ts⟩ := c
    simp only [compOp, ho] at hk
    split at hk
    · rename_i f
      cases hm : H.mode k <;> simp only [hm, reduceCtorEq] at hk
    · repeat' split at hk
      all_goals first
        | (cases hk; done)
        | (simp only [bad] at hk; cases hk; done)
        | (revert hk; generalize Nat.beq _ _ = bb; intro hk; cases bb <;> simp [bad] at hk)
    · simp only [bad] at hk; cases hk
  | binOp op t x' y ty =>
    cases op <;> simp only [compOp, ho, compEq, compAgg] at hk
    case eql => repeat' split at hk
                all_goals first
                  | (cases hk; done)
                  | (simp only [bad] at hk; cases hk; done)
                  | (cases hb' : (P.stoodInHeld t || P.eqGuardType P.depth t) <;> rw [hb'] at hk <;> simp [bad] at hk)
    case neq => repeat' split at hk
                all_goals first
                  | (cases hk; done)
                  | (simp only [bad] at hk; cases hk; done)
                  | (cases hb' : (P.stoodInHeld t || P.eqGuardType P.depth t) <;> rw [hb'] at hk <;> simp [bad] at hk)
    all_goals cases hk
  | buildSlice t n parts =>
    simp only [compOp, ho] at hk
    repeat' split at hk
    all_goals first
      | (cases hk; done)
      | (simp only [bad] at hk; cases hk; done)
      | (revert hk; generalize Nat.ble _ _ = bb; intro hk; cases bb <;> simp [bad] at hk)
  | makeMap t r =>
    cases r <;> simp only [compOp, ho] at hk
    · repeat' split at hk
      all_goals first
        | (cases hk; done)
        | (simp only [bad] at hk; cases hk; done)
    · simp only [bad] at hk; cases hk
  | next x' b =>
    cases b <;> simp only [compOp, ho] at hk
    · simp only [bad] at hk; cases hk
    · cases hk
  | store t x' y' =>
    simp only [compOp, ho] at hk
    split at hk
    · rename_i s hs
      simp only [Op.st.injEq] at hk
      obtain ⟨rfl, rfl, rfl⟩ := hk
      exact ⟨t, x', y', rfl, hs, rfl, rfl⟩
    · simp only [bad] at hk; cases hk
  | _ =>
    simp only [compOp, ho] at hk
    (repeat' split at hk)
    all_goals first
      | contradiction
      | (cases hk; done)
      | (simp only [bad] at hk; cases hk; done)
theorem std_of {P : Program} {H : Hint} {o : Oper} {rs : List (Nat × Bool × Nat)} {sz : Nat} {x y : X} (hq : OpOf P H (.std rs sz x y) o) : ∃ t x' y', o.op = .store t x' y' ∧ szT P t = some sz ∧ x = opX H x' ∧ y = opX H y' := by
  rcases hq with ⟨k, hk⟩ | ⟨_, _, _, _, _, h3⟩ | ⟨t, x', y', sz', rs', h1, h2, h3⟩
  · exact (compOp_std hk).elim
  · cases h3
  · simp only [Op.std.injEq] at h3
    obtain ⟨_, rfl, rfl, rfl⟩ := h3
    exact ⟨t, x', y', h1, h2, rfl, rfl⟩
theorem opOf_strip {P : Program} {H : Hint} {q : Op} {o : Oper} (hq : OpOf P H q o) : OpOf P H (strip q) o := by
  cases h : q with
  | calld rs f xs =>
    subst h
    obtain ⟨c, f', g1, g2, g3, g4⟩ := calld_of hq
    exact .inr (.inl ⟨c, f', [], g1, g2, by rw [g3, g4]; rfl⟩)
  | std rs sz x y =>
    subst h
    obtain ⟨t, x', y', g1, g2, g3, g4⟩ := std_of hq
    refine .inl ⟨0, ?_⟩
    simp only [strip, compOp, g1, g2, g3, g4]
  | _ => subst h; exact hq
theorem seq_step (hC : Callees Λ self) (hH : HintOk Λ H) {o : Oper} {q : Op} {v : AV} (hq : OpOf Λ.P H q o) (hd : ∀ c, o.op ≠ .defer c) (hv : evOp Λ.prog Λ.lib self tm hp ct q = some (v, hp', ct'))
    (ht : TRel Λ m S w tm a.tmps) (hh : HRel Λ m S w hp ct)
    (hn : ∀ u m' S' w', HRel Λ m' S' w' hp' ct' → ct ≤ ct' → Rep Λ.fid m' S' w' v u → Fwd m S w hp m' S' w' hp' ct → next (a.put o.dst u) w') : o.wpIn (WF ro) 0 Λ.P a w next Q := by
  have quiet : kindOp q ≤ 1 → o.wpIn (WF ro) 0 Λ.P a w next Q := by
    intro hk
    have hg := quiet_grows hk hv hh.hlt
    obtain ⟨S1, g1, g2, g3, g4⟩ := grow_rel hh hg
    refine quiet_step hC hH hk hq hd hv HLe.refl (Nat.le_refl _) hh.hlt (fun id h1 h2 => ?_) (trel_mono (fun _ _ h => h) g2 (fun _ _ => rfl) ht) g1 (fun u m' S' w' k1 k2 k3 k4 k5 => hn u m' S' w' k1 hg.cle k4 ((g4 ct).trans (k5.weak hg.cle)))
    cases hm : m id with
    | none => rfl
    | some p => have := hh.lt id p hm; omega
  have write1 : ∀ {q' : Op}, (∃ k, q' = compOp Λ.P H k o) → evWrite tm hp ct q' = some (v, hp', ct') → o.wpIn (WF ro) 0 Λ.P a w next Q := by
    intro q' hop hw
    obtain ⟨k, rfl⟩ := hop
    obtain ⟨n, u, w', m', S', h1, h2, h3, h4, h5, h6⟩ := turn_ok hH ht hh hw
    exact wp_now hd h1 h2 (hn u m' S' w' h3 (write_ct hw) h4 h6)
  have write : evWrite tm hp ct q = some (v, hp', ct') → o.wpIn (WF ro) 0 Λ.P a w next Q := by
    intro hw
    refine write1 ?_ hw
    rcases hq with h | ⟨c, f, rs, _, _, rfl⟩ | ⟨_, _, _, _, _, _, _, rfl⟩
    · exact h
    · simp [evWrite] at hw
    · simp [evWrite] at hw
  have heap : ∀ {c : Call} {f : Operand} {g : Nat} {first cap : List AV}, o.op = .call c → c.callee = .value f → xget tm (opX H f) = .fn (.f g) first cap →
      evHeap Λ.prog Λ.lib self hp ct g (first ++ (xgets tm (opXs H c.args.toList) ++ cap)) = some (v, hp', ct') → o.wpIn (WF ro) 0 Λ.P a w next Q := by
    intro c f g first cap ho hcf hx he
    obtain ⟨fi, ca, h1, h2⟩ := rep_args hH ht (args := c.args) hx
    refine wp_invoked ho hcf h1 (hC.heap _ _ _ _ _ _ _ he m S w _ hh h2) ?_
    rintro e w' ⟨u, m', S', rfl, k1, k2, k3, k4⟩
    exact ⟨u, rfl, hn u m' S' w' k1 k2 k3 k4⟩
  have round : ∀ {c : Call} {f : Operand} {l : Nat} {x y : List AV}, o.op = .call c → c.callee = .value f → xget tm (opX H f) = .fn (.y l) x y →
      evRound self hp ct l (xgets tm (opXs H c.args.toList)) = some (v, hp', ct') → o.wpIn (WF ro) 0 Λ.P a w next Q := by
    intro c f l x y ho hcf hx he
    have rf := rep_x hH ht f
    rw [hx] at rf
    simp only [Rep] at rf
    obtain ⟨p, hm, hf⟩ := rf
    have hargs := rep_xs hH ht c.args.toList
    obtain ⟨g, tmps, as_, body, h1, h2⟩ := hC.round _ _ _ _ _ _ _ he m S w (c.args.map a.eval) p hh hm (by simpa using hargs)
    refine wp_round ho hcf hf h1 h2 ?_
    rintro e w' ⟨u, m', S', rfl, k1, k2, k3, k4⟩
    exact ⟨u, rfl, hn u m' S' w' k1 k2 k3 k4⟩
  have dyn : ∀ {c : Call} {f : Operand}, o.op = .call c → c.callee = .value f → evCall Λ.prog Λ.lib self hp ct .dyn (xget tm (opX H f)) (xgets tm (opXs H c.args.toList)) = some (v, hp', ct') → o.wpIn (WF ro) 0 Λ.P a w next Q := by
    intro c f ho hcf he
    unfold evCall at he
    split at he
    · rename_i g first cap hx
      (try simp only at he)
      cases hp0 : pureL (first ++ (xgets tm (opXs H c.args.toList) ++ cap)) with
      | true =>
        rw [hp0] at he
        simp only [cond_true] at he
        cases hr : callPure Λ.prog Λ.lib self g (first ++ (xgets tm (opXs H c.args.toList) ++ cap)) with
        | none => simp [hr] at he
        | some r =>
          simp only [hr, Option.some.injEq, Prod.mk.injEq] at he
          obtain ⟨rfl, rfl, rfl⟩ := he
          obtain ⟨fi, ca, h1, h2⟩ := rep_args hH ht (args := c.args) hx
          refine wp_invoked ho hcf h1 (hC.pure g _ r hr w S _ (good_of hh) hh.slt (repL_pure (fun _ h => h) (fun _ _ => rfl) _ _ hp0 h2) hp0) ?_
          rintro e w' ⟨u, S', rfl, hw, g1, g2, g3, g4⟩
          obtain ⟨S2, k1, k2, k3⟩ := resV_shut g4 m
          have hS : ∀ b, S b → S2 b := fun b hb => k1 b (g1 b hb)
          have hS' : ∀ b, S2 b → S b ∨ w.heap.size ≤ b := fun b hb => (k2 b hb).elim (g2 b) (fun h => .inr h.1)
          have hl : ∀ b, S2 b → b < w'.heap.size := fun b hb => (k2 b hb).elim (g3 b) (fun h => h.2)
          exact ⟨u, rfl, hn u m S2 w' (hrel_calm hh hw hS hS' hl) (Nat.le_refl _) k3 (fwd_calm hh hw hS hS')⟩
      | false =>
        rw [hp0] at he
        simp only [cond_false] at he
        exact heap ho hcf hx he
    · rename_i l x y hx
      exact round ho hcf hx he
    · cases he
  cases hq' : q with
  | calld rs x xs =>
    subst hq'
    simp only [evOp] at hv
    have key := calld_of hq
    obtain ⟨c, f, ho, hcf, rfl, rfl⟩ := key
    cases hc : evCall Λ.prog Λ.lib self hp ct .dyn (xget tm (opX H f)) (xgets tm (opXs H c.args.toList)) with
    | none => simp [hc] at hv
    | some r =>
      obtain ⟨v1, hp1, ct1⟩ := r
      simp only [hc] at hv
      cases hs : sameLds tm hp hp1 rs with
      | false => rw [hs] at hv; cases hv
      | true =>
        rw [hs] at hv
        simp only [cond_true, Option.some.injEq, Prod.mk.injEq] at hv
        obtain ⟨rfl, rfl, rfl⟩ := hv
        exact dyn ho hcf hc
  | call md x xs =>
    subst hq'
    have hop : ∃ k, Op.call md x xs = compOp Λ.P H k o := by
      rcases hq with h | ⟨c, f, rs, _, _, h⟩ | ⟨_, _, _, _, _, _, _, h⟩
      · exact h
      · cases h
      · cases h
    obtain ⟨k, hk⟩ := hop
    cases md with
    | pure => exact quiet (by simp [kindOp])
    | own => exact quiet (by simp [kindOp])
    | heap =>
      simp only [evOp] at hv
      obtain ⟨c, f, ho, hcf, rfl, rfl⟩ := call_of hk.symm (by rintro rfl; simp [xget, evCall] at hv)
      unfold evCall at hv
      split at hv
      · rename_i g first cap hx
        exact heap ho hcf hx hv
      · rename_i l x y hx
        exact round ho hcf hx hv
      · cases hv
    | dyn =>
      simp only [evOp] at hv
      obtain ⟨c, f, ho, hcf, rfl, rfl⟩ := call_of hk.symm (by rintro rfl; simp [xget, evCall] at hv)
      exact dyn ho hcf hv
  | std rs s x y =>
    subst hq'
    obtain ⟨t, x', y', g1, g2, g3, g4⟩ := std_of hq
    simp only [evOp] at hv
    split at hv
    · rename_i id off hx
      cases hf : farLds tm id rs with
      | false => rw [hf] at hv; cases hv
      | true =>
        rw [hf] at hv
        simp only [cond_true] at hv
        exact write1 (q' := .st s x y) ⟨0, by simp only [compOp, g1, g2, g3, g4]⟩ hv
    · cases hv
  | st s x y => subst hq'; exact write (by simpa only [evOp] using hv)
  | mup kk x y z => subst hq'; exact write (by simpa only [evOp] using hv)
  | nxt x => subst hq'; exact write (by simpa only [evOp] using hv)
  | app s b x y => subst hq'; exact write (by simpa only [evOp] using hv)
  | cpy s x y => subst hq'; exact write (by simpa only [evOp] using hv)
  | sli k x lo hi => subst hq'; exact quiet (by cases k <;> simp [kindOp])
  | len k x => subst hq'; exact quiet (by rcases k with _ | _ | k <;> simp [kindOp])
  | _ => subst hq'; exact quiet (by simp [kindOp])
end
end VE
end
