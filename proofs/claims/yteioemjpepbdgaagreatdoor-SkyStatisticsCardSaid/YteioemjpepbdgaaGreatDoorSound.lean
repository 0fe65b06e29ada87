import Derived.LoopNIn
import Derived.RangeFuncIn
import Derived.Test.YteioemjpepbdgaaGreatDoorRegion
set_option linter.all false
section
namespace VE
open Go
theorem wpIn_scope {F : Fence} {n : Nat} {P : Program} {Q : Exit → Act → World → Prop} {a : Act} {w : World} {c : Code} (h : c.wpIn F n P Q a w) (hg : ∀ l a w, ¬ Q (.goto l) a w) : (Code.scope c).wpIn F n P Q a w := by
  intro b k cs hro hb hr
  have h0 : (lone (b.atR a (.code (.scope c) :: k)) cs w).fenced P F := fenced_calm hb hr rfl
  have s0 : step P (lone (b.atR a (.code (.scope c) :: k)) cs w) = .next (lone (b.atR a (.code c :: .inScope c :: k)) cs w) := step_lone_go (by simp [stepG, stepG.exec, Frame.atR])
  obtain ⟨e, a₁, w₁, hq, harr⟩ := h b (.inScope c :: k) cs hro hb hr
  have hx : ∀ id, exitTo id (.inScope c :: k) = exitTo id k := fun id => by simp [exitTo]
  cases e with
  | normal =>
    have s1 : step P (lone (b.atR a₁ (.inScope c :: k)) cs w₁) = .next (lone (b.atR a₁ k) cs w₁) := step_lone_go (by simp [stepG, stepG.exec, Frame.atR])
    exact ⟨.normal, a₁, w₁, hq, .head h0 s0 (StepsIn.trans harr (.one (fenced_calm hb hr rfl) s1))⟩
  | exit id =>
    exact ⟨.exit id, a₁, w₁, hq, fun k' hk => .head h0 s0 (harr.1 k' (by rw [hx]; exact hk)), fun hr' hk => let ⟨k₁, h1, h2⟩ := harr.2 hr' (by rw [hx]; exact hk); ⟨k₁, h1, .head h0 s0 h2⟩⟩
  | goto l => exact (hg _ _ _ hq).elim
  | ret => exact ⟨_, a₁, w₁, hq, .of_steps (.one h0 s0) harr⟩
  | panic ch => exact ⟨_, a₁, w₁, hq, .of_steps (.one h0 s0) harr⟩
  | outgrown => exact ⟨_, a₁, w₁, hq, .of_steps (.one h0 s0) harr⟩
def exOf : Ex → Exit
  | .normal => .normal
  | .ret => .ret
  | .exit id => .exit id
def Marks (lo : Nat) (S : Nat → Prop) (w : World) (ds : List Deferred) : Prop := ∃ rs : List Nat, ds = rs.map (fun r => { target := .collected r, args := #[] }) ∧ rs.Nodup ∧
  ∀ r, r ∈ rs → w.heap[r]? = some (.deferred (some [])) ∧ ¬ S r ∧ lo ≤ r
def RoundW (ro : Option Nat) (w : World) : Prop := ∀ l, ro = some l → ∃ r : Loop, w.heap[l]? = some (.loop r)
section
variable {Λ : Link} {m : Mp} {S : Nat → Prop} {w : World} {hp : Hp} {ct : Nat}
theorem own_kind (hh : HRel Λ m S w hp ct) {b : Nat} (h : Own m hp b) : ∀ x, w.heap[b]? ≠ some (.deferred x) := by
  intro x hx
  obtain ⟨id, o, p, h1, h2, rfl⟩ := h
  have h3 := hh.obj id o p h1 h2
  cases o with
  | cells rw pu ex sz cs => obtain ⟨q, arr, t, g1, g2, _⟩ := h3; rw [h2] at g1; injection g1 with g1; subst g1; rw [hx] at g2; cases g2
  | mp rw ks vs => obtain ⟨q, es, clock, g1, g2, _⟩ := h3; rw [h2] at g1; injection g1 with g1; subst g1; rw [hx] at g2; cases g2
  | si s pos => obtain ⟨q, t, g1, g2, _⟩ := h3; rw [h2] at g1; injection g1 with g1; subst g1; rw [hx] at g2; cases g2
  | lp tm ps as_ body st pe => obtain ⟨q, l, hi, g1, g2, _⟩ := h3; rw [h2] at g1; injection g1 with g1; subst g1; rw [hx] at g2; cases g2
theorem marks_fwd (hh : HRel Λ m S w hp ct) {m' : Mp} {S' : Nat → Prop} {w' : World} {hp' : Hp} {base lo : Nat} (hf : Fwd m S w hp m' S' w' hp' base) {ds : List Deferred} (h : Marks lo S w ds) : Marks lo S' w' ds := by
  obtain ⟨rs, h1, h2, h3⟩ := h
  refine ⟨rs, h1, h2, fun r hr => ?_⟩
  obtain ⟨this, h4, h5⟩ := h3 r hr
  have hlt := (Array.getElem?_eq_some_iff.1 this).1
  have hno : ¬ Own m hp r := fun ho => own_kind hh ho _ this
  refine ⟨(hf.same r hlt hno).trans this, fun hs => ?_, h5⟩
  rcases hf.new r hs with h | h | h
  · exact h4 h
  · exact hno h
  · omega
theorem round_fwd {m' : Mp} {S' : Nat → Prop} {w' : World} {hp' : Hp} {base : Nat} {ro : Option Nat} (hf : Fwd m S w hp m' S' w' hp' base) (h : RoundW ro w) : RoundW ro w' := fun l hl =>
  let ⟨r, hr⟩ := h l hl
  hf.loops l r hr
def Post (Λ : Link) (m : Mp) (S : Nat → Prop) (w : World) (s : St) (ex : Ex) (s' : St) (n lo : Nat) (e : Exit) (a' : Act) (w' : World) : Prop :=
  e = exOf ex ∧ ∃ m' S', TRel Λ m' S' w' s'.tm a'.tmps ∧ HRel Λ m' S' w' s'.hp s'.ct ∧ s'.base = s.base ∧ s.base ≤ s'.ct ∧ Fwd m S w s.hp m' S' w' s'.hp s.base ∧ a'.tmps.size = n ∧ Marks lo S' w' a'.defers
def Concl (Λ : Link) (h : Nat) (c : Code) (s : St) (ex : Ex) (s' : St) : Prop :=
  ∀ (ro : Option Nat) (lo : Nat) (m : Mp) (S : Nat → Prop) (w : World) (a : Act), RoundW ro w → TRel Λ m S w s.tm a.tmps → HRel Λ m S w s.hp s.ct → s.base ≤ s.ct → (Λ.hint h).n ≤ a.tmps.size → Λ.w0.heap.size ≤ lo → lo ≤ w.heap.size → Marks lo S w a.defers →
    c.wpIn (WF ro) 0 Λ.P (Post Λ m S w s ex s' a.tmps.size lo) a w
structure LinkOk (Λ : Link) : Prop where
  hint : ∀ h, HintOk Λ (Λ.hint h)
  mixed : Λ.P.follows .mixedOrders = true
  prog : ∀ n F, Λ.prog n = some F → ∃ fn, Λ.P.funcs[Λ.fid n]? = some fn ∧ compFn Λ.P (Λ.hint n) fn = some F ∧ fn.name ≠ "runtime.NumGoroutine"
  lib : ∀ n sp vals r, Λ.lib.pure n = some sp → sp vals = some r → PureC Λ n vals r
  libH : ∀ n sp hp ct vals v hp' ct', Λ.lib.heap n = some sp → sp hp ct vals = some (v, hp', ct') → HeapC Λ n hp ct vals v hp' ct'
theorem setRs_of {P : Program} {H : Hint} {ops : Array Oper} : ∀ (rs : List ROp) (l : List Oper) (done : List ROp) (ms : List Nat), RopsOf P H ops rs l → RopsOf P H ops (setRs done rs ms) l
  | [], l, done, ms, h => by
    cases ms <;> simpa only [setRs] using h
  | r :: rs, [], done, ms, h => by simp [RopsOf] at h
  | r :: rs, o :: l, done, [], h => by
    obtain ⟨d, g, op⟩ := r
    cases op <;> simpa only [setRs] using h
  | r :: rs, o :: l, done, m :: ms, h => by
    simp only [RopsOf] at h
    obtain ⟨h1, h2⟩ := h
    obtain ⟨d, g, op⟩ := r
    cases op with
    | calld lds f xs =>
      simp only [setRs, RopsOf]
      refine ⟨?_, setRs_of rs l _ ms h2⟩
      rcases h1 with h1 | ⟨_, h1⟩
      · refine .inl ⟨?_, h1.dst, h1.ok, h1.guard⟩
        obtain ⟨c, f', g1, g2, g3, g4⟩ := calld_of h1.op
        rw [g3, g4]
        exact .inr (.inl ⟨c, f', _, g1, g2, rfl⟩)
      · simp [bad] at h1
    | st sz x y =>
      simp only [setRs, RopsOf]
      refine ⟨?_, setRs_of rs l _ ms h2⟩
      rcases h1 with h1 | ⟨_, h1⟩
      · refine .inl ⟨?_, h1.dst, h1.ok, h1.guard⟩
        unfold stOp
        split
        · exact h1.op
        · obtain ⟨t, x', y', g1, g2, g3, g4⟩ := st_of h1.op
          exact .inr (.inr ⟨t, x', y', sz, _, g1, g2, by rw [g3, g4]⟩)
      · simp [bad] at h1
    | _ =>
      simp only [setRs, RopsOf]
      exact ⟨h1, setRs_of rs l _ ms h2⟩
end
section
variable {Λ : Link} {self : Run}
theorem rops_get {P : Program} {H : Hint} {ops : Array Oper} : ∀ {rs : List ROp} {l : List Oper}, RopsOf P H ops rs l → rs.length = l.length ∧ ∀ (i : Nat) (r : ROp) (o : Oper), rs[i]? = some r → l[i]? = some o → RopOf P H ops r o ∨ (r.guard = none ∧ r.op = bad)
  | [], [], _ => ⟨rfl, fun i r o h => by simp at h⟩
  | [], _ :: _, h => by simp [RopsOf] at h
  | _ :: _, [], h => by simp [RopsOf] at h
  | r :: rs, o :: l, h => by
    simp only [RopsOf] at h
    obtain ⟨h1, h2⟩ := rops_get h.2
    refine ⟨by simp [h1], fun i r' o' hr ho => ?_⟩
    cases i with
    | zero => simp at hr ho; subst hr; subst ho; exact h.1
    | succ i => exact h2 i r' o' (by simpa using hr) (by simpa using ho)
theorem hrel_drew {m : Mp} {S : Nat → Prop} {w : World} {hp : Hp} {ct : Nat} (hh : HRel Λ m S w hp ct) : Calm w { w with drawn := w.drawn + 1 } := ⟨rfl, rfl, rfl, Nat.le_refl _, fun _ _ => rfl⟩
theorem reg_ok (hΛ : LinkOk Λ) (hC : Callees Λ self) (h : Nat) (id : Nat) (ops : Array Oper) (draw : Bool) (k : Nat) {s s' : St} (hv : evOps Λ.prog Λ.lib self (compReg Λ.P (Λ.hint h) ops draw k).1 s = some s') : Concl Λ h (.region id ops draw) s .normal s' := by
  intro ro lo m S w a hro ht hh hb hn hlo hlw hmk
  unfold compReg at hv
  have hof := compOps_of (P := Λ.P) (H := Λ.hint h) (ops := ops) ops.toList k
  generalize hq : compOps Λ.P (Λ.hint h) ops ops.toList k = q at hv hof
  obtain ⟨l, k'⟩ := q
  simp only at hv hof
  have post : ∀ {a' : Act} {m' : Mp} {S' : Nat → Prop} {w' : World}, HRel Λ m' S' w' s'.hp s'.ct → s.ct ≤ s'.ct → TRel Λ m' S' w' s'.tm a'.tmps → Fwd m S w s.hp m' S' w' s'.hp s.ct → a'.tmps.size = a.tmps.size → a'.defers = a.defers → s'.base = s.base → Post Λ m S w s .normal s' a.tmps.size lo .normal a' w' := by
    intro a' m' S' w' h1 h2 h3 h4 h5 h6 h7
    exact ⟨rfl, m', S', h3, h1, h7, by omega, h4.weak hb, h5, by rw [h6]; exact marks_fwd hh h4 hmk⟩
  cases draw with
  | false =>
    simp only [cond_false] at hv
    refine wpIn_region ?_
    rw [List.range_eq_range']
    have hl : ops.size = ops.toList.length := by simp
    rw [hl]
    exact ops_seq hC (hΛ.hint h) ops.toList l 0 s s' a m S w (fun j => by simp) hof hv ht hh hn (fun a' m' S' w' h1 h2 h3 h4 h5 h6 h7 => post h1 h2 h3 h4 h5 h6 h7)
  | true =>
    simp only [cond_true] at hv
    cases hck : (edgesBack ops.toList 0 && pairsOk [] (setRs [] l (masks [] ops.toList)) (masks [] ops.toList)) with
    | false =>
      rw [hck] at hv
      simp [evOps, bad, evOp, evCall, xget] at hv
    | true =>
      rw [hck] at hv
      simp only [cond_true] at hv
      simp only [Bool.and_eq_true] at hck
      have hof' := setRs_of l ops.toList [] (masks [] ops.toList) hof
      generalize setRs [] l (masks [] ops.toList) = rs at hv hck hof'
      obtain ⟨hlen, hget⟩ := rops_get hof'
      obtain ⟨tmF, hpF, ctF, vF, hR, e1, e2, e3, e4, e5, e6, e7⟩ := run1_of hv
      have hG : RegOk Λ (Λ.hint h) self ops rs tmF hpF ctF vF := by
        refine ⟨hR, by rw [hlen]; simp, fun i r o hr ho => ?_, fun i j x y hij hx hy => ?_, fun i o ho e he hbd => ?_⟩
        · rcases hget i r o hr (by simpa using ho) with g | ⟨g1, g2⟩
          · exact g
          · have := hR.step i r hr
            simp [ev1, g1, wantG, g2, bad, evOp, evCall, xget] at this
        · obtain ⟨mm, g1, g2⟩ := pairsOk_spec (done := []) (i := i) (j := j) (a := x) (b := y) hck.2 (by simpa using hx) hy (by simpa using hij)
          refine g2.imp (fun g => ?_) (fun g => by simpa using g)
          unfold Ord
          rw [List.getD_eq_getElem?_getD, g1]
          exact g
        · have := edgesBack_spec hck.1 (j := i) (o := o) (by simpa using ho) e he hbd
          omega
      refine wpIn_region_any hΛ.mixed ?_
      have hcalm := hrel_drew hh
      have hh1 := hrel_calm hh hcalm (S' := S) (fun _ h => h) (fun _ h => .inl h) hh.slt
      have hf1 : Fwd m S w s.hp m S { w with drawn := w.drawn + 1 } s.hp (ctF 0) := fwd_calm hh hcalm (fun _ h => h) (fun _ h => .inl h)
      obtain ⟨c, c1, c2, c3, c4⟩ := next_w rs rs.length 0 (by omega)
      have hg : ∀ k', k' ≤ c → Grows (hpF 0) (ctF 0) (hpF (0 + k')) (ctF (0 + k')) := fun k' hk' =>
        run_grows hR (by rw [e2, e3]; exact hh.hlt) k' (by omega) (fun j r g1 g2 hr => kind_le hr (c3 j g1 (by omega)))
      have hg1 := hg c (Nat.le_refl _)
      rw [Nat.zero_add] at hg1
      obtain ⟨S1, g1, g2, g3, g4⟩ := grow_rel (by rw [e2, e3]; exact hh1 : HRel Λ m S { w with drawn := w.drawn + 1 } (hpF 0) (ctF 0)) hg1
      have hnone : ∀ i, (Array.replicate ops.size false).getD i false = true → False := fun i hi => by
        simp only [Array.getD_eq_getD_getElem?] at hi
        by_cases hlt : i < ops.size
        · simp [hlt] at hi
        · rw [Array.getElem?_eq_none (by simpa using hlt)] at hi
          simp at hi
      refine any_ok (m0 := m) (S0 := S) (w0 := w) (n0 := a.tmps.size) (d0 := a.defers) hC (hΛ.hint h) hG hn (fun a' m' S' w' h1 h2 h3 h4 h5 h6 => ?_) ops.size _ 0 c m S1 _ a (by simp) ?_ (fun j o _ hj => (hnone j hj).elim) ?_
      · rw [e5, e6] at h1
        rw [e3, e6] at h2
        rw [e4] at h3
        rw [e2, e3, e5] at h4
        exact post h1 h2 h3 h4 h5 h6 e7
      · unfold left
        rw [List.countP_eq_length.2]
        · simp
        · intro i hi
          simp only [Bool.not_eq_true']
          cases hq : (Array.replicate ops.size false).getD i false with
          | false => rfl
          | true => exact (hnone i hq).elim
      · refine ⟨Nat.zero_le _, c2, fun i hi => by omega, c3, c4.imp (fun h => h) (fun h => ⟨h, fun hd => hnone c hd⟩), fun i r _ _ _ hd => hnone i hd, g1, fun id p hp => .inl (by rw [e3]; exact hh.lt id p hp), fun t => ⟨0, Nat.zero_le _, fun i r _ _ => ⟨fun hd => (hnone i hd).elim, fun h => by omega⟩, ?_⟩, ?_, hg1.cle, rfl, rfl, .inl rfl, fun j hj => ?_⟩
        · rw [e1]
          exact rep_mono (fun _ _ h => h) (fun b hb => g2 b hb) (fun b hb => hcalm.same b (hh.slt b hb)) _ _ (ht t)
        · rw [e2]
          have g5 := g4 (ctF 0)
          rw [e2] at g5
          exact hf1.trans g5
        · have := (hg j hj).lt
          rw [Nat.zero_add] at this
          exact this
end
end VE
end
section
namespace VE
open Go
section
variable {Λ : Link} {m : Mp} {S : Nat → Prop} {w : World} {hp : Hp} {ct : Nat}
theorem hrel_other (hh : HRel Λ m S w hp ct) {g : Nat} {w' : World} (hw : One w w' g) (hg : ¬ S g) (ho : ¬ Own m hp g) (hlo : Λ.w0.heap.size ≤ g) : HRel Λ m S w' hp ct := by
  have hst : SameOn S w w' := fun b hb => hw.other b (fun e => hg (e ▸ hb))
  refine ⟨fun id o p h1 h2 => ?_, hh.lt, hh.inj, fun b hb => by rw [hw.size]; exact hh.slt b hb, fun id p h => by rw [hw.size]; exact hh.blt id p h, hh.low, fun b hb => ?_, by rw [hw.size]; exact hh.goodS, hh.hlt⟩
  · exact orel_mono (fun _ _ h => h) (fun _ h => h) hst (fun q hq => hw.other _ (fun e => ho ⟨id, o, q, h1, hq, e⟩)) (fun _ _ h => h) (hh.obj id o p h1 h2)
  · rw [hw.other b (by omega)]; exact hh.good b hb
theorem run_getObj {P : Program} {b : Nat} {o : Go.Obj} (h : w.heap[b]? = some o) (hc : ∀ c t f, o ≠ .cells c t f) : (getObj b).run P w = .ok o w := by
  simp only [getObj, Sem.run, h]
  try (cases o <;> first | rfl | exact absurd rfl (hc _ _ _))
theorem run_setObj {P : Program} {b : Nat} {o x : Go.Obj} (h : w.heap[b]? = some o) (hc : ∀ c t f, o ≠ .cells c t f) : (setObj b x).run P w = .ok () { w with heap := w.heap.setIfInBounds b x } := by
  simp only [setObj, Sem.run, h]
  try (cases o <;> first | rfl | exact absurd rfl (hc _ _ _))
theorem run_getLoop {P : Program} {b : Nat} {r : Loop} (h : w.heap[b]? = some (.loop r)) : (Instr.getLoop b).run P w = .ok r w := by
  simp only [Instr.getLoop, Sem.run_bind, run_getObj (P := P) h (fun _ _ _ => by simp), Result.andThen_ok, Sem.run_pure]
theorem loop_of (hh : HRel Λ m S w hp ct) {l : Nat} {tm : Env} {ps : List Nat} {as_ body : VC} {st : Nat} {pe : Jump} {p : Pl} (hg : hget hp l = some (.lp tm ps as_ body st pe)) (hm : m l = some p) :
    ∃ (r : Loop) (h : Nat), w.heap[p.b]? = some (.loop r) ∧ ¬ S p.b ∧ r.state = stOf st ∧ st ≤ 2 ∧ r.pending = pendOf pe ∧ TRel Λ m S w tm r.tmps ∧ r.params.toList = ps ∧ Cod Λ.P (Λ.hint h) as_ r.assign ∧ Cod Λ.P (Λ.hint h) body r.body ∧
      (Λ.hint h).n ≤ r.tmps.size ∧ allLt (Λ.hint h).n ps = true := by
  obtain ⟨q, r, h, g1, g2, g3⟩ := hh.obj l _ p hg hm
  rw [hm] at g1
  injection g1 with g1
  subst g1
  exact ⟨r, h, g2, g3⟩
theorem hrel_loop (hh : HRel Λ m S w hp ct) {l : Nat} {tm : Env} {ps : List Nat} {as_ body : VC} {st : Nat} {pe : Jump} {p : Pl} (hg : hget hp l = some (.lp tm ps as_ body st pe)) (hm : m l = some p) {r : Loop} (hr : w.heap[p.b]? = some (.loop r))
    {st' : Nat} {pe' : Jump} (h2 : st' ≤ 2) :
    HRel Λ m S { w with heap := w.heap.setIfInBounds p.b (.loop { r with state := stOf st', pending := pendOf pe' }) } (hset hp l (.lp tm ps as_ body st' pe')) ct ∧
    Fwd m S w hp m S { w with heap := w.heap.setIfInBounds p.b (.loop { r with state := stOf st', pending := pendOf pe' }) } (hset hp l (.lp tm ps as_ body st' pe')) ct := by
  obtain ⟨r', h, g1, g2, g3, g4, g5, g6, g7, g8, g9, g10, g11⟩ := loop_of hh hg hm
  rw [hr] at g1
  injection g1 with g1
  injection g1 with g1
  subst g1
  have hone := one_setObj w p.b (.loop { r with state := stOf st', pending := pendOf pe' })
  refine hrel_set hh hg hm g2 hone ⟨p, { r with state := stOf st', pending := pendOf pe' }, h, hm, setObj_new hr, g2, rfl, h2, rfl, ?_, g7, g8, g9, g10, g11⟩ (fun _ _ => ⟨_, setObj_new hr⟩)
  exact trel_mono (fun _ _ h => h) (fun _ h => h) (fun b hb => hone.other b (fun e => g2 (e ▸ hb))) g6
theorem bindPs_ok {n : Nat} : ∀ {ps : List Nat} {vs : List AV} {us : List Value} {tm tm' : Env} {tmps : Array Value}, bindPs tm ps vs = some tm' → RepL Λ.fid m S w vs us → TRel Λ m S w tm tmps → n ≤ tmps.size → allLt n ps = true →
    ps.length = us.length ∧ TRel Λ m S w tm' ((ps.zip us).foldl (fun t (x : Nat × Value) => t.setIfInBounds x.1 x.2) tmps) ∧ ((ps.zip us).foldl (fun t (x : Nat × Value) => t.setIfInBounds x.1 x.2) tmps).size = tmps.size
  | [], [], us, tm, tm', tmps, h, hr, ht, hn, ha => by
    simp only [bindPs, Option.some.injEq] at h
    subst h
    simp only [RepL] at hr
    subst hr
    exact ⟨rfl, ht, rfl⟩
  | [], _ :: _, us, tm, tm', tmps, h, hr, ht, hn, ha => by simp [bindPs] at h
  | _ :: _, [], us, tm, tm', tmps, h, hr, ht, hn, ha => by simp [bindPs] at h
  | p :: ps, v :: vs, us, tm, tm', tmps, h, hr, ht, hn, ha => by
    simp only [bindPs] at h
    simp only [RepL] at hr
    obtain ⟨u, t, rfl, h1, h2⟩ := hr
    simp only [allLt, Bool.and_eq_true] at ha
    have hp := blt_iff.1 ha.1
    have ht1 : TRel Λ m S w ((p, v) :: tm) (tmps.setIfInBounds p u) := trel_put (a := ⟨tmps, []⟩) (d := some p) ht (fun i hi => by injection hi with hi; show i < tmps.size; omega) h1
    obtain ⟨g1, g2, g3⟩ := bindPs_ok (n := n) h h2 ht1 (by simpa using hn) ha.2
    refine ⟨by simp [g1], ?_, ?_⟩
    · simp only [List.zip_cons_cons, List.foldl_cons]; exact g2
    · simp only [List.zip_cons_cons, List.foldl_cons]; rw [g3]; simp
theorem fold_zip (ps : Array Tmp) (args : Array Value) (tmps : Array Value) : (ps.zip args).foldl (fun tmps (x : Tmp × Value) => tmps.setIfInBounds x.1 x.2) tmps = (ps.toList.zip args.toList).foldl (fun t (x : Nat × Value) => t.setIfInBounds x.1 x.2) tmps := by
  rw [← Array.foldl_toList, Array.toList_zip]
theorem run_endRound {P : Program} {b : Nat} {r : Loop} (h : w.heap[b]? = some (.loop r)) (jump : Option Code) :
    (Instr.endRound b jump).run P w = .ok (.bool jump.isNone) { w with heap := w.heap.setIfInBounds b (.loop { r with state := if jump.isNone then .ready else .done, pending := jump }) } := by
  simp only [Instr.endRound, Sem.run_bind, run_getLoop h, Result.andThen_ok, run_setObj (P := P) h (fun _ _ _ => by simp), Sem.run_pure]
theorem run_beginRound {P : Program} {b : Nat} {r : Loop} (h : w.heap[b]? = some (.loop r)) (hs : r.state = .ready) :
    (Instr.beginRound b).run P w = .ok () { w with heap := w.heap.setIfInBounds b (.loop { r with state := .busy }) } := by
  simp only [Instr.beginRound, Sem.run_bind, run_getLoop h, Result.andThen_ok, run_setObj (P := P) h (fun _ _ _ => by simp), hs, Sem.run_pure]
theorem round_ok {self : Run} (hS : ∀ v s ex s', self v s = some (ex, s') → ∀ c h l k, (comp Λ.P (Λ.hint h) c l k).1 = v → Concl Λ h c s ex s') {l : Nat} {xs : List AV} {v : AV} {hp' : Hp} {ct' : Nat}
    (hv : evRound self hp ct l xs = some (v, hp', ct')) : RoundC Λ hp ct l xs v hp' ct' := by
  intro m S w args p hh hm hargs
  unfold evRound at hv
  split at hv
  case h_2 => cases hv
  rename_i tm ps as_ body pe hg
  obtain ⟨r, h, g1, g2, g3, g4, g5, g6, g7, ⟨ca, ka, g8⟩, ⟨cb, kb, g9⟩, g10, g11⟩ := loop_of hh hg hm
  cases hb : bindPs tm ps xs with
  | none => simp [hb] at hv
  | some tm' =>
    simp only [hb] at hv
    obtain ⟨b1, b2, b3⟩ := bindPs_ok hb hargs g6 g10 g11
    rw [← g7] at b1 b2 b3
    have hsz : args.size = r.params.size := by
      have : r.params.toList.length = args.toList.length := b1
      simpa using this.symm
    let tmps : Array Value := (r.params.zip args).foldl (fun tmps (x : Tmp × Value) => tmps.setIfInBounds x.1 x.2) r.tmps
    have hzip : tmps = (r.params.toList.zip args.toList).foldl (fun t (x : Nat × Value) => t.setIfInBounds x.1 x.2) r.tmps := fold_zip _ _ _
    refine ⟨r.fn, tmps, r.assign, r.body, ?_, ?_⟩
    · simp only [Instr.yield, Sem.run_bind, run_getLoop g1, Result.andThen_ok, hsz, ne_eq, not_true_eq_false, if_false, Sem.run_pure]
      rfl
    refine roundIn_of_wpIn (F := Fence.wide) trivial ?_
    cases h1 : self as_ ⟨tm', hp, ct, ct⟩ with
    | none => simp [h1] at hv
    | some q =>
      obtain ⟨ex1, s1⟩ := q
      cases ex1 with
      | ret => simp [h1] at hv
      | exit id => simp [h1] at hv
      | normal =>
        simp only [h1] at hv
        have hc1 := hS _ _ _ _ h1 r.assign h ca ka g8
        have hro : ∀ w', Fwd m S w hp m S w' hp ct → RoundW (some p.b) w' := fun w' hf => round_fwd hf (fun l hl => ⟨r, by injection hl with hl; subst hl; exact g1⟩)
        refine wpIn_mono (hc1 (some p.b) w.heap.size m S w ⟨tmps, []⟩ (hro w Fwd.refl) (by rw [hzip]; exact b2) hh (Nat.le_refl _) (by show _ ≤ tmps.size; rw [hzip, b3]; exact g10) hh.goodS (Nat.le_refl _) ⟨[], rfl, by simp, by simp⟩) ?_
        rintro e a1 w1 ⟨rfl, m1, S1, k1, k2, k3, k4, k5, k6, k7⟩
        simp only [exOf, Exit.then]
        have hm1 : m1 l = some p := k5.old l p (hh.lt l p hm) hm
        split at hv
        case h_2 => cases hv
        rename_i tm1 ps1 as1 body1 pe1 hg1
        obtain ⟨r1, hh1, f1, f2, f3, f4, f5, f6, f7, f8, f9, f10, f11⟩ := loop_of k2 hg1 hm1
        have hbr := run_beginRound (P := Λ.P) f1 f3
        obtain ⟨q1, q2⟩ := hrel_loop k2 hg1 hm1 f1 (st' := 1) (pe' := pe1) (by omega)
        have hr1 : ({ r1 with state := stOf 1, pending := pendOf pe1 } : Loop) = { r1 with state := .busy } := by rw [← f5]; rfl
        rw [hr1] at q1 q2
        refine ⟨_, hbr, ?_⟩
        cases h2 : self body ⟨s1.tm, hset s1.hp l (.lp tm1 ps1 as1 body1 1 pe1), s1.ct, s1.ct⟩ with
        | none => simp [h2] at hv
        | some q =>
          obtain ⟨ex, s2⟩ := q
          simp only [h2] at hv
          have hc2 := hS _ _ _ _ h2 r.body h cb kb g9
          have hro2 : RoundW (some p.b) { w1 with heap := w1.heap.setIfInBounds p.b (.loop { r1 with state := .busy }) } := fun l hl => by
            injection hl with hl; subst hl; exact ⟨_, setObj_new f1⟩
          have ht2 : TRel Λ m1 S1 { w1 with heap := w1.heap.setIfInBounds p.b (.loop { r1 with state := .busy }) } s1.tm a1.tmps :=
            trel_mono (fun _ _ h => h) (fun _ h => h) (fun b hb => q2.still b hb) k1
          have hsz1 : (Λ.hint h).n ≤ a1.tmps.size := by
            rw [k6]
            show _ ≤ tmps.size
            rw [hzip, b3]; exact g10
          refine wpIn_mono (hc2 (some p.b) w.heap.size m1 S1 _ a1 hro2 ht2 q1 (Nat.le_refl _) hsz1 hh.goodS (Nat.le_trans k5.size q2.size) (marks_fwd k2 q2 k7)) ?_
          rintro e a2 w2 ⟨rfl, m2, S2, j1, j2, j3, j4, j5, j6, j7⟩
          have hm2 : m2 l = some p := j5.old l p (k2.lt l p hm1) hm1
          split at hv
          case h_2 => cases hv
          rename_i tm2 ps2 as2 body2 pe2 hg2
          obtain ⟨r2, hh2, d1, d2, d3, d4, d5, d6, d7, d8, d9, d10, d11⟩ := loop_of j2 hg2 hm2
          have fwd2 : Fwd m S w hp m2 S2 w2 s2.hp ct := (k5.trans (q2.weak k4)).trans (j5.weak k4)
          have hct2 : ct ≤ s2.ct := Nat.le_trans k4 j4
          have fin : ∀ (jump : Option Code) (st' : Nat) (pe' : Jump), pendOf pe' = jump → stOf st' = (if jump.isNone then .ready else .done) → st' ≤ 2 →
              ∃ v' w', (Instr.endRound p.b jump).run Λ.P w2 = .ok v' w' ∧ HeapPost Λ m S w hp ct (.bool jump.isNone) (hset s2.hp l (.lp tm2 ps2 as2 body2 st' pe')) s2.ct (.returned v') w' := by
            intro jump st' pe' e1 e2 e3
            obtain ⟨z1, z2⟩ := hrel_loop j2 hg2 hm2 d1 (st' := st') (pe' := pe') e3
            rw [e1, e2] at z1 z2
            exact ⟨_, _, run_endRound d1 jump, _, m2, S2, rfl, z1, hct2, by simp [Rep], fwd2.trans (z2.weak hct2)⟩
          cases ex with
          | normal =>
            simp only [Option.some.injEq, Prod.mk.injEq] at hv
            obtain ⟨rfl, rfl, rfl⟩ := hv
            simp only [exOf, roundPost]
            exact fin none 0 .none rfl rfl (by omega)
          | ret =>
            simp only [jumpOf, Option.some.injEq, Prod.mk.injEq] at hv
            obtain ⟨rfl, rfl, rfl⟩ := hv
            simp only [exOf, roundPost]
            exact fin (some .ret) 2 .ret rfl rfl (by omega)
          | exit id =>
            simp only [jumpOf, Option.some.injEq, Prod.mk.injEq] at hv
            obtain ⟨rfl, rfl, rfl⟩ := hv
            simp only [exOf, roundPost]
            exact fin (some (.exit id)) 2 (.exit id) rfl rfl (by omega)
end
end VE
end
section
namespace VE
open Go
section
variable {Λ : Link} {self : Run}
theorem enter_of {P : Program} {f : FuncId} {fn : Func} {args : Array Value} {w : World} (hf : P.funcs[f]? = some fn) (hb : fn.body.isSome = true) (hn : fn.name ≠ "runtime.NumGoroutine") : (callFunc f args).run P w = .ok (.enter f args) w := by
  have h1 : fn.body ≠ none := fun e => by rw [e] at hb; cases hb
  simp [callFunc, program, Sem.run, hf, h1, hn]
theorem compFn_body {P : Program} {H : Hint} {fn : Func} {F : Fnc} (h : compFn P H fn = some F) : ∃ c, fn.body = some c ∧ F.body = (comp P H c 0 0).1 ∧ compRes P fn.results.toList = some F.res ∧ H.n ≤ fn.ntmps := by
  unfold compFn at h
  split at h
  · rename_i c rs h1 h2
    cases hb : Nat.ble H.n fn.ntmps with
    | false => rw [hb] at h; cases h
    | true =>
      rw [hb] at h
      simp only [cond_true, Option.some.injEq] at h
      subst h
      exact ⟨c, h1, rfl, h2, Nat.le_of_ble_eq_true hb⟩
  · cases h
theorem enter_ok {m : Mp} {S : Nat → Prop} {w : World} {hp : Hp} {ct : Nat} {tm : Env} {a : Act} {ro : Option Nat} (fn : FuncId) (ps : Array Tmp) (assign body : Code) {as_ b' : VC} {h : Nat} (hh : HRel Λ m S w hp ct) (ht : TRel Λ m S w tm a.tmps) (hro : RoundW ro w)
    (hca : Cod Λ.P (Λ.hint h) as_ assign) (hcb : Cod Λ.P (Λ.hint h) b' body) (hn : (Λ.hint h).n ≤ a.tmps.size) (hps : allLt (Λ.hint h).n ps.toList = true) {lo : Nat} (hlw : lo ≤ w.heap.size) (hmk : Marks lo S w a.defers) :
    ∃ l mark w1, (Instr.enterLoop fn a.tmps ps assign body ro).run Λ.P w = .ok (l, mark) w1 ∧ HRel Λ (addM m ct ⟨l, 0, 0, 0⟩) S w1 ((ct, .lp tm ps.toList as_ b' 0 .none) :: hp) (ct + 1) ∧
      Fwd m S w hp (addM m ct ⟨l, 0, 0, 0⟩) S w1 ((ct, .lp tm ps.toList as_ b' 0 .none) :: hp) ct ∧ m ct = none ∧ Marks lo S w1 (mark ++ a.defers) ∧ w.heap.size ≤ l := by
  have hmi : m ct = none := by
    cases hq : m ct with
    | none => rfl
    | some p => have := hh.lt ct p hq; omega
  have lay : ∀ (w' : World) (d : Nat), Calm w w' → Marks lo S w' a.defers →
      HRel Λ (addM m ct ⟨w'.heap.size, 0, 0, 0⟩) S (w'.alloc (.loop { state := .ready, pending := none, fn := fn, tmps := a.tmps, params := ps, assign := assign, body := body, defers := d })) ((ct, .lp tm ps.toList as_ b' 0 .none) :: hp) (ct + 1) ∧
      Fwd m S w hp (addM m ct ⟨w'.heap.size, 0, 0, 0⟩) S (w'.alloc (.loop { state := .ready, pending := none, fn := fn, tmps := a.tmps, params := ps, assign := assign, body := body, defers := d })) ((ct, .lp tm ps.toList as_ b' 0 .none) :: hp) ct := by
    intro w' d hw hmk'
    have hh1 : HRel Λ m S w' hp ct := hrel_calm hh hw (fun _ h => h) (fun _ h => .inl h) (fun b hb => Nat.lt_of_lt_of_le (hh.slt b hb) hw.size)
    have hf1 : Fwd m S w hp m S w' hp ct := fwd_calm hh hw (fun _ h => h) (fun _ h => .inl h)
    have hg : Grows hp ct ((ct, .lp tm ps.toList as_ b' 0 .none) :: hp) (ct + 1) := by
      refine ⟨fun id o ho => ⟨o, ?_, oLe.refl o⟩, by omega, fun id o ho => ?_, fun id o ho hi => ?_⟩
      · rw [hget_cons, if_neg (by have := hh.hlt id o ho; omega)]; exact ho
      · rw [hget_cons] at ho
        by_cases hc : ct = id
        · omega
        · simp only [hc, if_false] at ho; have := hh.hlt id o ho; omega
      · rw [hget_cons, if_neg (by omega)] at ho; exact ⟨o, ho⟩
    have hin : ∀ i q, hget ((ct, Obj.lp tm ps.toList as_ b' 0 .none) :: hp) i = some q → i ≠ ct → hget hp i = some q := fun i q h hi => by
      rw [hget_cons, if_neg (fun e => hi e.symm)] at h; exact h
    have hh2 : HRel Λ m S w' ((ct, .lp tm ps.toList as_ b' 0 .none) :: hp) (ct + 1) := by
      have hne : ∀ id p, m id = some p → id ≠ ct := fun id p hm e => by have := hh.lt id p hm; omega
      exact ⟨fun id o p ho hm => hh1.obj id o p (hin id o ho (hne id p hm)) hm, fun id p hm => by have := hh.lt id p hm; omega,
        fun i j oi oj pi pj hi hj hmi hmj e => hh1.inj i j oi oj pi pj (hin i oi hi (hne i pi hmi)) (hin j oj hj (hne j pj hmj)) hmi hmj e, hh1.slt, hh1.blt, hh1.low, hh1.good, hh1.goodS, hg.lt⟩
    have hor : ORel Λ (addM m ct ⟨w'.heap.size, 0, 0, 0⟩) S (w'.alloc (.loop { state := .ready, pending := none, fn := fn, tmps := a.tmps, params := ps, assign := assign, body := body, defers := d })) ct (.lp tm ps.toList as_ b' 0 .none) := by
      refine ⟨⟨w'.heap.size, 0, 0, 0⟩, _, h, addM_same, heap_alloc_new w' _, ?_, rfl, by omega, rfl, ?_, rfl, hca, hcb, hn, hps⟩
      · intro hS
        have := hh1.slt _ hS
        simp at this
      · exact trel_mono (addM_le hmi) (fun _ h => h) (fun b hb => (same_alloc hh1 _ b hb).trans (hw.same b (hh.slt b hb))) ht
    obtain ⟨S', k1, k2, k3⟩ := hrel_new (i := ct) (p := ⟨w'.heap.size, 0, 0, 0⟩) hh2 hmi (by omega) rfl (fun o ho => by
      rw [hget_cons] at ho
      simp only [if_true, Option.some.injEq] at ho
      subst ho
      exact .inl ⟨hor, by simp [frozenO]⟩)
    have k1' : HRel Λ (addM m ct ⟨w'.heap.size, 0, 0, 0⟩) S (w'.alloc (.loop { state := .ready, pending := none, fn := fn, tmps := a.tmps, params := ps, assign := assign, body := body, defers := d })) ((ct, .lp tm ps.toList as_ b' 0 .none) :: hp) (ct + 1) := by
      have hmb : ∀ id q, m id = some q → q.b ≠ w'.heap.size := fun id q hq => by have := hh1.blt id q hq; omega
      refine ⟨?_, k1.lt, k1.inj, fun b hb => k1.slt b (k2 b hb), k1.blt, k1.low, k1.good, k1.goodS, k1.hlt⟩
      intro id o q ho hm
      by_cases hc : id = ct
      · subst hc
        rw [hget_cons] at ho
        simp only [if_true, Option.some.injEq] at ho
        subst ho
        exact hor
      · rw [addM_other hc] at hm
        exact orel_mono (addM_le hmi) (fun _ h => h) (same_alloc hh1 _) (fun q' hq' => alloc_old (hh1.blt id q' hq')) (fun _ _ h => h) (hh1.obj id o q (hin id o ho hc) hm)
    refine ⟨k1', hf1.trans ⟨rfl, rfl, rfl, by simp, fun b hb _ => alloc_old hb, fun _ h => h, fun b hb => same_alloc hh1 _ b hb, fun b hb => .inl hb, ?_, fun i q _ hq => addM_le hmi i q hq, fun b r hb => ⟨r, (alloc_old (Array.getElem?_eq_some_iff.1 hb).1).trans hb⟩⟩⟩
    rintro b ⟨i, o, q, g1, g2, g3⟩
    by_cases hc : i = ct
    · subst hc
      rw [addM_same] at g2
      injection g2 with g2
      subst g2
      exact .inr (by rw [← g3]; exact Nat.le_refl _)
    · rw [addM_other hc] at g2
      exact .inl ⟨i, o, q, hin i o g1 hc, g2, g3⟩
  cases ro with
  | none =>
    have hcalm : Calm w (w.alloc (.deferred (some []))) := ⟨rfl, rfl, rfl, by simp, fun b hb => alloc_old hb⟩
    obtain ⟨rs, r1, r2, r3⟩ := hmk
    have hmk1 : Marks lo S (w.alloc (.deferred (some []))) a.defers := ⟨rs, r1, r2, fun r hr => ⟨(alloc_old (Array.getElem?_eq_some_iff.1 (r3 r hr).1).1).trans (r3 r hr).1, (r3 r hr).2⟩⟩
    obtain ⟨k1, k2⟩ := lay (w.alloc (.deferred (some []))) w.heap.size hcalm hmk1
    refine ⟨(w.alloc (.deferred (some []))).heap.size, [{ target := .collected w.heap.size, args := #[] }], _, ?_, k1, k2, hmi, ?_, by simp⟩
    · simp [Instr.enterLoop, newObj, Sem.run]
    · have hold : ∀ (b : Nat) (x : Go.Obj), (w.alloc (.deferred (some []))).heap[b]? = some x → ((w.alloc (.deferred (some []))).alloc (.loop { state := .ready, pending := none, fn := fn, tmps := a.tmps, params := ps, assign := assign, body := body, defers := w.heap.size })).heap[b]? = some x := fun b x hb =>
        (alloc_old (Array.getElem?_eq_some_iff.1 hb).1).trans hb
      refine ⟨w.heap.size :: rs, by rw [r1]; rfl, ?_, ?_⟩
      · rw [List.nodup_cons]
        refine ⟨fun hm => ?_, r2⟩
        have := (Array.getElem?_eq_some_iff.1 (r3 _ hm).1).1
        omega
      · intro r hr
        rcases List.mem_cons.1 hr with rfl | hr
        · exact ⟨hold _ _ (heap_alloc_new w _), fun hs => by have := hh.slt _ hs; omega, hlw⟩
        · exact ⟨hold _ _ ((alloc_old (Array.getElem?_eq_some_iff.1 (r3 r hr).1).1).trans (r3 r hr).1), (r3 r hr).2⟩
  | some l0 =>
    obtain ⟨r0, hr0⟩ := hro l0 rfl
    obtain ⟨k1, k2⟩ := lay w r0.defers Calm.refl hmk
    refine ⟨w.heap.size, [], _, ?_, k1, k2, hmi, ?_, Nat.le_refl _⟩
    · simp [Instr.enterLoop, run_getLoop hr0, newObj, Sem.run]
    · exact marks_fwd hh k2 hmk
theorem rf_ok (hΛ : LinkOk Λ) (hC : Callees Λ self) {h : Nat} {f : Operand} {ps : Array Tmp} {assign body : Code} {as_ b' : VC} (hca : Cod Λ.P (Λ.hint h) as_ assign) (hcb : Cod Λ.P (Λ.hint h) b' body) (hps : allLt (Λ.hint h).n ps.toList = true)
    {s : St} {ex : Ex} {s' : St} (hv : evStep Λ.prog Λ.lib self (.rf (opX (Λ.hint h) f) ps.toList as_ b') s = some (ex, s')) : Concl Λ h (.rangeFunc f ps assign body) s ex s' := by
  intro ro lo m S w a hro ht hh hb hn hlo hlw hmk
  simp only [evStep] at hv
  split at hv
  case h_2 => cases hv
  rename_i n first cap hx
  split at hv
  case h_1 => cases hv
  rename_i hL
  cases he : evHeap Λ.prog Λ.lib self ((s.ct, .lp s.tm ps.toList as_ b' 0 .none) :: s.hp) (s.ct + 1) n (first ++ (.fn (.y s.ct) [] [] :: cap)) with
  | none => simp [he] at hv
  | some q =>
    obtain ⟨v, hp1, ct1⟩ := q
    simp only [he] at hv
    split at hv
    case h_2 => cases hv
    rename_i tm2 ps2 as2 body2 st pe hg2
    cases hst : Nat.beq st 1 with
    | true => rw [hst] at hv; cases hv
    | false =>
      rw [hst] at hv
      simp only [cond_false] at hv
      refine wpIn_rangeFunc (fun fn _ => ?_)
      obtain ⟨l, mark, w1, e1, e2, e3, e4, e5, e6⟩ := enter_ok (ro := ro) fn ps assign body hh ht hro hca hcb hn hps hlw hmk
      have rf := rep_x (hΛ.hint h) ht f
      rw [hx] at rf
      simp only [Rep] at rf
      obtain ⟨fi, ca, hf, r2, r3⟩ := rf
      have hle := addM_le e4 (p := ⟨l, 0, 0, 0⟩)
      have hst1 : SameOn S w w1 := fun b hb => e3.still b hb
      have hargs : RepL Λ.fid (addM m s.ct ⟨l, 0, 0, 0⟩) S w1 (first ++ (.fn (.y s.ct) [] [] :: cap)) (fi ++ #[Value.func (.yield l) #[] #[]] ++ ca).toList := by
        have := repL_append (repL_mono hle (fun _ h => h) hst1 _ _ r2) (repL_append (a := [.fn (.y s.ct) [] []]) (x := [Value.func (.yield l) #[] #[]]) (by
          simp only [RepL]
          exact ⟨_, [], rfl, by simp only [Rep]; exact ⟨_, addM_same, rfl⟩, rfl⟩) (repL_mono hle (fun _ h => h) hst1 _ _ r3))
        simpa using this
      have hcall := hC.heap _ _ _ _ _ _ _ he _ S w1 _ e2 hargs
      have hP : ∃ F, Λ.prog n = some F := by
        unfold evHeap at he
        rw [hL] at he
        cases hq : Λ.prog n with
        | none => simp [hq] at he
        | some F => exact ⟨F, rfl⟩
      obtain ⟨F, hF⟩ := hP
      obtain ⟨fn', q1, q2, q3⟩ := hΛ.prog n F hF
      obtain ⟨cb, q4, _⟩ := compFn_body q2
      have hent : (callFunc (Λ.fid n) (fi ++ #[Value.func (.yield l) #[] #[]] ++ ca)).run Λ.P w1 = .ok (.enter (Λ.fid n) (fi ++ #[Value.func (.yield l) #[] #[]] ++ ca)) w1 := enter_of q1 (by rw [q4]; rfl) q3
      refine ⟨l, mark, w1, { target := .fn (.func (Λ.fid n)) ca, args := fi ++ #[Value.func (.yield l) #[] #[]] }, w1, Λ.fid n, fi ++ #[Value.func (.yield l) #[] #[]] ++ ca, w1, e1, ?_, fun _ _ => trivial, ?_, fun hd => by simp [WF, Fence.wide] at hd, ?_⟩
      · show Sem.run Λ.P (Deferred.ofValue (a.eval f) _) w1 = _
        rw [hf]
        simp [Deferred.ofValue, Act.eval]
      · simp only [invoke]; exact hent
      · rcases hcall with ⟨_, hcall⟩ | ⟨u, w', h1, _⟩
        case inr => rw [hent] at h1; cases h1
        have hcall' : CallsIn (WF ro) 0 Λ.P (Λ.fid n) (fi ++ #[Value.func (.yield l) #[] #[]] ++ ca) w1 (HeapPost Λ (addM m s.ct ⟨l, 0, 0, 0⟩) S w1 ((s.ct, .lp s.tm ps.toList as_ b' 0 .none) :: s.hp) (s.ct + 1) v hp1 ct1) := hcall
        refine CallsIn.mono hcall' ?_
        rintro e w3 ⟨u, m', S', rfl, k1, k2, k3, k4⟩
        have hm' : m' s.ct = some ⟨l, 0, 0, 0⟩ := k4.old s.ct _ (Nat.lt_succ_self _) addM_same
        obtain ⟨r, hh2, d1, d2, d3, d4, d5, d6, _⟩ := loop_of k1 hg2 hm'
        have hnb : (r.state == LoopState.busy) = false := by
          rw [d3]
          rcases st with _ | _ | st
          · rfl
          · simp at hst
          · have : st = 0 := by omega
            subst this; rfl
        have hone := one_setObj w3 l (.loop { r with state := .exhausted })
        have hdl := hrel_del k1 s.ct
        have hno : ¬ Own m' (hdel hp1 s.ct) l := own_del_not k1 hg2 hm'
        have z1 : HRel Λ m' S' { w3 with heap := w3.heap.setIfInBounds l (.loop { r with state := .exhausted }) } (VE.hdel hp1 s.ct) ct1 := hrel_other hdl hone d2 hno (by have := hh.goodS; omega)
        have z2 : Fwd m' S' w3 hp1 m' S' { w3 with heap := w3.heap.setIfInBounds l (.loop { r with state := .exhausted }) } (VE.hdel hp1 s.ct) s.base := by
          refine ⟨rfl, rfl, rfl, by rw [hone.size]; exact Nat.le_refl _, fun b _ hb => hone.other b (fun e => hb (e ▸ own_of hg2 hm')), fun _ h => h, fun b hb => hone.other b (fun e => d2 (e ▸ hb)), fun b hb => .inl hb, fun b hb => .inl (own_del hb), fun _ _ _ h => h, fun b x hb => ?_⟩
          by_cases hc : b = l
          · subst hc; exact ⟨_, setObj_new d1⟩
          · exact ⟨x, (hone.other b hc).trans hb⟩
        have hfwd : Fwd m S w s.hp m' S' { w3 with heap := w3.heap.setIfInBounds l (.loop { r with state := .exhausted }) } (VE.hdel hp1 s.ct) s.base :=
          ((e3.weak hb).trans (k4.weak (by omega))).trans z2
        have hend : (Instr.endLoop l).run Λ.P w3 = .ok (pendOf pe) { w3 with heap := w3.heap.setIfInBounds l (.loop { r with state := .exhausted }) } := by
          simp only [Instr.endLoop, Sem.run_bind, run_getLoop d1, Result.andThen_ok, hnb, Bool.false_eq_true, if_false, Sem.run_pure, run_setObj (P := Λ.P) d1 (fun _ _ _ => by simp), d5]
        have hmk' : Marks lo S' { w3 with heap := w3.heap.setIfInBounds l (.loop { r with state := .exhausted }) } (mark ++ a.defers) := marks_fwd k1 z2 (marks_fwd e2 k4 e5)
        have ht' : TRel Λ m' S' { w3 with heap := w3.heap.setIfInBounds l (.loop { r with state := .exhausted }) } s.tm a.tmps := by
          refine trel_mono (fun id p hp => ?_) hfwd.sub (fun b hb => hfwd.still b hb) ht
          have h1 := hh.lt id p hp
          exact k4.old id p (by omega) (hle id p hp)
        have post : ∀ ex', s' = { s with hp := VE.hdel hp1 s.ct, ct := ct1 } → ex = ex' → Post Λ m S w s ex s' a.tmps.size lo (exOf ex') { a with defers := mark ++ a.defers } { w3 with heap := w3.heap.setIfInBounds l (.loop { r with state := .exhausted }) } := by
          rintro ex' rfl rfl
          exact ⟨rfl, m', S', ht', z1, rfl, by show s.base ≤ ct1; omega, hfwd, rfl, hmk'⟩
        refine ⟨_, _, hend, ?_⟩
        cases pe with
        | none =>
          simp only [Option.some.injEq, Prod.mk.injEq] at hv
          exact post .normal hv.2.symm hv.1.symm
        | ret =>
          simp only [Option.some.injEq, Prod.mk.injEq] at hv
          exact wpIn_ret (post .ret hv.2.symm hv.1.symm)
        | exit id =>
          simp only [Option.some.injEq, Prod.mk.injEq] at hv
          exact wpIn_exit (post (.exit id) hv.2.symm hv.1.symm)
end
end VE
end
