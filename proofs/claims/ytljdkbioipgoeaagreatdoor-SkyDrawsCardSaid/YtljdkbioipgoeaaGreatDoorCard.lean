/- SkyDraws of chapter 7 returns true for every input, and each argument reads afterwards as it read before. Conditions: the package-level variables that the row lists hold what the program's text lays (the card ties them); nothing else. The proof: a small machine on values, shown sound against the model once (texts Model to Fn); the program's functions as that machine's code, each checked against the translation by the kernel (Link); what each function answers (Go to SkyC); the chapter's fixed examples as a table of calls (Awake). -/
import Derived.Test.YtljdkbioipgoeaaGreatDoorCards
import Derived.Test.YtljdkbioipgoeaaGreatDoorTie
import Derived.WalkKit
import Derived.ProofKit
import Derived.OpenShut
import Derived.Deep.DeepHandedRow
import Derived.Deep.DeepWitnessRowRef
import Derived.Lib.LaidTab
import Derived.Lib.LaidIn
import Derived.Lib.LaidU8
import Derived.Test.YtljdkbioipgoeaaGreatDoorJoin
set_option linter.all false
/- SkyDraws: the row and its card. -/
set_option maxRecDepth 1000000
namespace Go.Proofs.YtljdkbioipgoeaaGreatDoor.skyDraws
open Go.ChangeShapes Go.WideShapes Go.ChangeAt Go.RowKit

theorem own : ownKnob Tryz.prog.godebug = none := by kernel_rfl

theorem tabIs_of_reads {P : Program} {W : World} {name : String} {k : IntKind} {zs : List Int} {g : Nat} {t e : TypeId} {n : Nat}
    (hg : P.globalNamed name = some g) (hty : (P.globals[g]?).map (·.type) = some t) (ht : P.underlying t = some (.array n e)) (he : P.underlying e = some (.int k)) (hce : P.cellsOf e = 1) (hct : P.cellsOf t = n)
    (h : Lib.VarReads P W name (Lib.tabData k zs)) : Lib.TabIs P W name k zs := by
  obtain ⟨g', t', cs, fuel, p, hg', ht', hvar, hd⟩ := h
  obtain rfl := Option.some.inj (hg.symm.trans hg')
  obtain rfl := Option.some.inj (hty.symm.trans ht')
  unfold Lib.TabIs
  rw [hvar, ← Lib.cells_of_tab ht he hce hct hd]

theorem table {W : World} (h : laidMetH Tryz.prog Rows.skyDrawsRow.laid W) : Lib.TabIs Tryz.prog W "internal/strconv.uint64pow10" .u64 Lib.pow10Tab :=
  have h' : laidMet Tryz.prog Rows.skyDrawsRow.laid W := h
  have hm : ("internal/strconv.uint64pow10", (Lib.tabData .u64 Lib.pow10Tab : DataW Unit)) ∈ Rows.skyDrawsRow.laid := .tail _ (.tail _ (.head _))
  tabIs_of_reads (g := 3) (t := 244) (e := 173) (n := 20) (by kernel_rfl) (by kernel_rfl) Tryz.underlying244 Tryz.underlying173 (by kernel_rfl) (by kernel_rfl) (Lib.laidMet.reads h' hm)

theorem flats : Tryz.f3.params.toList.all (VE.flat Tryz.prog 5) = true := by
  rw [Tryz.params3]; kernel_rfl

open VE in
/-- What is read, as values. -/
theorem shapes {H : Type} {enc : TypeId × Value → H} {W : World} {args : Array Value} {ds : List (DataW H)} {ps : List MemPlace} (hA : DataW.TrodAll enc Tryz.prog W 0 (fun _ => true) true [24, 25, 26] args.toList ds ps) :
    ∃ d1 d2 d3 wv sv w s key side x y, ds = [d1, d2, d3] ∧ IsI wv w ∧ IsS sv s ∧ ((0 : Int) ≤ x ∧ x < 256) ∧ ((0 : Int) ≤ y ∧ y < 256) ∧ argsAV Tryz.prog 5 [24, 25, 26] ds = [.agg [I64 key, I64 side, wv], sv, .agg [.int .u8 x, .int .u8 y]] := by
  obtain ⟨v0, v1, v2, d0, d1, d2, p0, p1, p2, _, rfl, _, ⟨f0, h0⟩, ⟨f1, h1⟩, ⟨f2, h2⟩⟩ := trodAll_three hA
  have r0 : Rd enc Tryz.prog W 0 (fun _ => true) true 24 d0 := ⟨f0, _, _, h0⟩
  have r1 : Rd enc Tryz.prog W 0 (fun _ => true) true 25 d1 := ⟨f1, _, _, h1⟩
  have r2 : Rd enc Tryz.prog W 0 (fun _ => true) true 26 d2 := ⟨f2, _, _, h2⟩
  obtain ⟨fs, hf, hfs⟩ : ∃ fs, Tryz.prog.underlying 24 = some (.struct fs) ∧ fs.toList.map (·.type) = [3, 3, 22] := ⟨_, Tryz.underlying24, rfl⟩
  obtain ⟨x0, y0, z0, e2, q0, q1, q2⟩ := rd_struct3 (n := 4) hf hfs r0
  obtain ⟨sv, s, g1, g2⟩ := rd_rows (n := 2) Tryz.underlying25 Tryz.underlying22 Tryz.underlying3 r1
  obtain ⟨x, y, g3, g4, g5⟩ := rd_bytes2 (n := 3) Tryz.underlying26 Tryz.underlying5 r2
  obtain ⟨key, k0, _⟩ := rd_int (n := 3) Tryz.underlying3 q0
  obtain ⟨side, k1, _⟩ := rd_int (n := 3) Tryz.underlying3 q1
  obtain ⟨wv, w, k2, k3⟩ := rd_ints (n := 2) Tryz.underlying22 Tryz.underlying3 q2
  refine ⟨d0, d1, d2, wv, sv, w, s, key, side, x, y, rfl, k3, g2, g4, g5, ?_⟩
  have a0 : argAV Tryz.prog 5 24 d0 = .agg [I64 key, I64 side, wv] := by
    unfold argAV
    rw [hf]
    simp only
    rw [e2, k0, k1, k2]
    rfl
  have a1 : argAV Tryz.prog 5 25 d1 = sv := by
    unfold argAV
    rw [Tryz.underlying25]
    simp only
    rw [g1]; rfl
  have a2 : argAV Tryz.prog 5 26 d2 = .agg [.int .u8 x, .int .u8 y] := by
    unfold argAV
    rw [Tryz.underlying26]
    simp only
    rw [g3]
  simp only [argsAV, a0, a1, a2]

theorem contract (H : Type) (enc : TypeId × Value → H) (W : World) (base : Nat) (args : Array Value) (ds gs : List (DataW H)) (before : List MemPlace)
    (hval : ∀ (j : Nat) t v, Tryz.f3.params[j]? = some t → args[j]? = some v → Value.okWide Tryz.prog W .any base t v)
    (hW : DataW.Whole enc Tryz.prog Tryz.f3.params.toList Rows.skyDrawsSpec.vars false W args.toList ds gs before) (hL : laidMetH Tryz.prog Rows.skyDrawsRow.laid W) (hsh : W.ShapedOpen Tryz.prog) :
    Calls Tryz.prog 3 args W fun e W' => ∃ v, e = .returned v ∧ Rows.skyDrawsSpec.post enc Tryz.prog Tryz.f3 false true false false W args v W' := by
  have hW' := hW
  obtain ⟨p, q, hA0, hV, rfl, hfz, hnd⟩ := hW
  have hA : DataW.TrodAll enc Tryz.prog W 0 (fun _ => true) true Tryz.f3.params.toList args.toList ds p := hA0
  rw [Tryz.params3] at hA
  obtain ⟨d1, d2, d3, wv, sv, w, s, key, side, x, y, hds, hw, hs, hx, hy, ha⟩ := shapes hA
  obtain ⟨rfl, rfl⟩ := trodVars_none hV
  obtain ⟨m, hm⟩ := Tryz.s1_3 W hsh
  have hp := VE.J2.draws hm (table hL) hw hs key side hx hy
  have hp' : VE.PureC (VE.J1.Λ W) 176 (VE.argsAV (VE.J1.Λ W).P 5 Tryz.f3.params.toList ds) (.bool true) := by
    have e : VE.argsAV (VE.J1.Λ W).P 5 Tryz.f3.params.toList ds = [.agg [VE.I64 key, VE.I64 side, wv], sv, .agg [.int .u8 x, .int .u8 y]] := by
      rw [Tryz.params3]; exact ha
    rw [e]; exact hp
  exact VE.law_calls (Λ := VE.J1.Λ W) (n := 176) (k := 5) (fn := Tryz.f3) (s := Rows.skyDrawsSpec) (tb := 4) hp' rfl Tryz.func3 rfl (by decide) hval hW' rfl flats (by rw [hds]; rfl) (by kernel_rfl) Tryz.underlying4

set_option maxRecDepth 10000 in
/-- A world for the witness. -/
noncomputable def laidWorld (os : Os) : World :=
  let N := (World.settled Tryz.prog os).heap.size
  let w0 := World.holding Tryz.prog os ⟨#[.cells #[.string ⟨#[105, 110, 118, 97, 108, 105, 100, 32, 115, 121, 110, 116, 97, 120]⟩] 260, .cells #[.string ⟨#[118, 97, 108, 117, 101, 32, 111, 117, 116, 32, 111, 102, 32, 114, 97, 110, 103, 101]⟩] 260], #[], []⟩
  let put (h : Array Obj) (g : Nat) (cs : Array Value) : Array Obj := h.modify g fun
    | .cells _ t frozen => .cells cs t frozen
    | o => o
  let h3 := put w0.heap 3 (Lib.pow10Tab.map fun z => Value.int .u64 z).toArray
  let h4 := put h3 4 #[.iface 258 (.pointer (some ⟨N, 0, none⟩))]
  let h5 := put h4 5 #[.iface 258 (.pointer (some ⟨N + 1, 0, none⟩))]
  let h6 := put h5 6 (Lib.firstTab.map fun z => Value.int .u8 z).toArray
  let h7 := put h6 7 ((List.range 16).flatMap fun i => [Value.int .u8 (Lib.accLo i), Value.int .u8 (Lib.accHi i)]).toArray
  let h8 := put h7 8 (([0, 1, 28, 2, 29, 14, 24, 3, 30, 22, 20, 15, 25, 17, 4, 8, 31, 27, 13, 23, 21, 19, 16, 7, 26, 12, 18, 6, 11, 5, 10, 9] : List Int).map fun z => Value.int .u8 z).toArray
  let h9 := put h8 9 (([0, 1, 56, 2, 57, 49, 28, 3, 61, 58, 42, 50, 38, 29, 17, 4, 62, 47, 59, 36, 45, 43, 51, 22, 53, 39, 33, 30, 24, 18, 12, 5, 63, 55, 48, 27, 60, 41, 37, 16, 46, 35, 44, 21, 52, 32, 23, 11, 54, 26, 40, 15, 34, 20, 31, 10, 25, 14, 19, 9, 13, 8, 7, 6] : List Int).map fun z => Value.int .u8 z).toArray
  { w0 with heap := h9 }
noncomputable abbrev N0 : Nat := (World.settled Tryz.prog default).heap.size

abbrev wargs : Array Value := #[.agg #[.int .i64 0, .int .i64 0, .slice none 0 0], .slice none 0 0, .agg #[.int .u8 0, .int .u8 0]]

set_option maxRecDepth 1000000 in
theorem laid_met (os : Os) (args : Array Value) : laidMet Tryz.prog Rows.skyDrawsRow.laid ((laidWorld os).forCall (fun _ _ => 0) ⟨#[], args, []⟩).memory :=
  (LaidIn.of_run [3, 4, 5, 6, 7, 8, 9, N0, N0 + 1] 8 (by kernel_rfl) (by kernel_rfl) (by kernel_rfl) (by kernel_rfl)).met

theorem witness_row (os : Os) {H : Type} (enc : TypeId × Value → H) :
    (OpenSpec.ofChange Rows.skyDrawsSpec).preRow enc Tryz.prog Tryz.f3 Rows.skyDrawsRow.domain false Rows.skyDrawsRow.laid ((laidWorld os).forCall (fun _ _ => 0) ⟨#[], wargs, []⟩).memory wargs := by
  have hw : (DataW.whole enc Tryz.prog ((laidWorld os).forCall (fun _ _ => 0) ⟨#[], wargs, []⟩).memory Tryz.f3.params.toList Rows.skyDrawsSpec.vars false wargs.toList 8).map (fun x => (x.1, x.2.1)) =
      some ([.agg [.lit (.int .i64 0), .lit (.int .i64 0), .nil], .nil, .agg [.lit (.int .u8 0), .lit (.int .u8 0)]], []) := by kernel_rfl
  obtain ⟨⟨x1, x2, x3⟩, hx, hx1⟩ := Option.map_eq_some_iff.1 hw
  simp only [Prod.mk.injEq] at hx1
  obtain ⟨rfl, rfl⟩ := hx1
  exact OpenSpec.preRow_of_cond 8 hx (by kernel_rfl) (fun k hk => by cases hk) (by kernel_rfl) (laid_met os _)

set_option maxRecDepth 100000 in
theorem lifted (os : Os) (started : os.Started) (H : Type) (enc : TypeId × Value → H) (F : Stop.Interp) :
    ReturnsInHanded {} Tryz.checked os 3 .any ((OpenSpec.ofChange Rows.skyDrawsSpec).preRow enc Tryz.prog Tryz.f3 Rows.skyDrawsRow.domain false Rows.skyDrawsRow.laid) (((OpenSpec.ofChange Rows.skyDrawsSpec).at F).post enc Tryz.prog Tryz.f3 false true false false) := by
  refine returnsInHanded_of_row (C := Tryz.checked) (s := OpenSpec.ofChange Rows.skyDrawsSpec) own started (by kernel_rfl) Tryz.func3
    (witness_row_atRef (enc := enc) (C := Tryz.checked) false (laidWorld os) wargs rfl (by kernel_rfl) (by kernel_rfl) (by kernel_rfl) (witness_row os enc)) ?_
  intro W base args ds gs before hval hW _ _ _ hL hsh _
  exact contract H enc W base args ds gs before hval hW hL hsh

theorem said : Rows.SkyDrawsSaid :=
  OpenClaim.holds_of_cond 3 Tryz.f3 rfl rfl rfl rfl rfl rfl rfl ⟨rfl, rfl, rfl, rfl, rfl⟩ rfl rfl rfl rfl rfl (by kernel_rfl) Tryz.func3 (by kernel_rfl)
    (of_decide_eq_true (by kernel_rfl)) (by unfold Func.isWrapper; first | (rw [if_pos (by decide +kernel)]; kernel_rfl) | (rw [if_neg (by decide +kernel)]; exact ⟨rfl, rfl⟩))
    (fun os started H enc _ F => by rw [OpenClaim.pre_eq_preRow]; exact lifted os started H enc F)

theorem plain (f : FuncId) (fn : Func) (hf : Tryz.pinned.checked.prog.funcNamed "lenslet/lensletlaw07.SkyDraws" = some f) (hfn : Tryz.pinned.checked.prog.funcs[f]? = some fn) :
    true = Tryz.pinned.checked.prog.looks [] ∧ ∀ (j : Nat) t, fn.params[j]? = some t → Tryz.pinned.checked.prog.wantsStandIn t = false := by
  obtain rfl : f = 3 := Option.some.inj ((show Tryz.prog.funcNamed "lenslet/lensletlaw07.SkyDraws" = some 3 by kernel_rfl).symm.trans hf) |>.symm
  obtain rfl : fn = Tryz.f3 := (Option.some.inj (Tryz.func3.symm.trans hfn)).symm
  refine ⟨by kernel_rfl, fun j t ht => ?_⟩
  rw [Tryz.params3] at ht
  have ht : t = 24 ∨ t = 25 ∨ t = 26 := by
    have := Array.mem_of_getElem? ht
    simpa using this
  rcases ht with rfl | rfl | rfl
  · exact (show Tryz.prog.wantsStandIn 24 = false by kernel_rfl)
  · exact (show Tryz.prog.wantsStandIn 25 = false by kernel_rfl)
  · exact (show Tryz.prog.wantsStandIn 26 = false by kernel_rfl)

theorem card : Rows.SkyDrawsCardSaid :=
  Claim7.holds_tied_plain_at .later [] _ _ _ _ said (fun _ h => by cases h) (by kernel_rfl) (fun _ h => by cases h) skyDraws_row_tie rfl ⟨rfl, rfl⟩ (by kernel_rfl) rfl plain (by kernel_rfl)
end Go.Proofs.YtljdkbioipgoeaaGreatDoor.skyDraws
