import Derived.Lib.AtoiErrMem
import Derived.Laws.Externs
import Derived.Test.YtmjadjhlhjldjaaGreatDoorLibC
import Derived.Test.YtmjadjhlhjldjaaGreatDoorShelfB
import Derived.Test.YtmjadjhlhjldjaaGreatDoorLink
import Derived.Test.YtmjadjhlhjldjaaGreatDoorAwake
import Derived.Test.YtmjadjhlhjldjaaGreatDoorLaw
import Derived.Test.YtmjadjhlhjldjaaGreatDoorDraw
import Derived.Test.YtmjadjhlhjldjaaGreatDoorShape
set_option linter.all false
section
/- The seat's link. -/
set_option maxRecDepth 100000
namespace VE
namespace J1
open Go Go.Proofs

/-- The link at a world. -/
noncomputable def Λ (W : World) : Link := ⟨Tryz.prog, VE.lib, fidT Lk1.fid, VE.prog, hintT Lk1.ren Lk1.hd, W⟩

theorem calm_grow {w : World} {k : Nat} {os : Array Go.Obj} : Calm w (Go.Sort.grow (w.drewN k) os) := calm_below (Lib.below_grow w.heap.size w (Nat.le_refl _) k os)

theorem tab_good {W w : World} (h : Lib.TabIs Tryz.prog W "internal/strconv.uint64pow10" .u64 Lib.pow10Tab) (hg : GoodW (Λ W) w) : Lib.TabIs Tryz.prog w "internal/strconv.uint64pow10" .u64 Lib.pow10Tab := by
  unfold Lib.TabIs World.var? at h ⊢
  cases hn : Tryz.prog.globalNamed "internal/strconv.uint64pow10" with
  | none => rw [hn] at h; exact h
  | some g =>
    rw [hn] at h
    simp only [Option.bind_some] at h ⊢
    have hb : g < W.heap.size := by
      cases hq : W.heap[g]? with
      | none => rw [hq] at h; cases h
      | some o => exact (Array.getElem?_eq_some_iff.1 hq).1
    rw [hg.1 g hb]
    exact h

theorem e89 : ∀ args w, (callFunc 89 args).run Tryz.prog w = .ok (.enter 89 args) w := enters_of Tryz.func89 (by kernel_rfl) rfl
theorem e88 : ∀ args w, (callFunc 88 args).run Tryz.prog w = .ok (.enter 88 args) w := enters_of Tryz.func88 (by kernel_rfl) rfl
theorem e142 : ∀ args w, (callFunc 142 args).run Tryz.prog w = .ok (.enter 142 args) w := enters_of Tryz.func142 (by kernel_rfl) rfl
theorem e143 : ∀ args w, (callFunc 143 args).run Tryz.prog w = .ok (.enter 143 args) w := enters_of Tryz.func143 (by kernel_rfl) rfl
theorem e144 : ∀ args w, (callFunc 144 args).run Tryz.prog w = .ok (.enter 144 args) w := enters_of Tryz.func144 (by kernel_rfl) rfl
theorem e128 : ∀ args w, (callFunc 128 args).run Tryz.prog w = .ok (.enter 128 args) w := enters_of Tryz.func128 (by kernel_rfl) rfl
theorem e123 : ∀ args w, (callFunc 123 args).run Tryz.prog w = .ok (.enter 123 args) w := enters_of Tryz.func123 (by kernel_rfl) rfl
theorem e124 : ∀ args w, (callFunc 124 args).run Tryz.prog w = .ok (.enter 124 args) w := enters_of Tryz.func124 (by kernel_rfl) rfl
theorem e125 : ∀ args w, (callFunc 125 args).run Tryz.prog w = .ok (.enter 125 args) w := enters_of Tryz.func125 (by kernel_rfl) rfl
theorem e122 : ∀ args w, (callFunc 122 args).run Tryz.prog w = .ok (.enter 122 args) w := enters_of Tryz.func122 (by kernel_rfl) rfl
theorem e161 : ∀ args w, (callFunc 161 args).run Tryz.prog w = .ok (.enter 161 args) w := enters_of Tryz.func161 (by kernel_rfl) rfl
theorem e112 : ∀ args w, (callFunc 112 args).run Tryz.prog w = .ok (.enter 112 args) w := enters_of Tryz.func112 (by kernel_rfl) rfl

theorem f64bits (b : Nat) (w : World) : (callFunc 138 #[.float .f64 b]).run Tryz.prog w = .ok (.value (.int .u64 b)) w := by
  rw [run_callFunc_extern Tryz.func138 (by kernel_rfl) (by kernel_rfl) (by kernel_rfl) (e := Extern.MathFloatBits.float64bits) (by kernel_rfl)]
  rfl
theorem f64frombits (b : Nat) (w : World) : (callFunc 141 #[.int .u64 b]).run Tryz.prog w = .ok (.value (.float .f64 b)) w := by
  rw [run_callFunc_extern Tryz.func141 (by kernel_rfl) (by kernel_rfl) (by kernel_rfl) (e := Extern.MathFloatBits.float64frombits) (by kernel_rfl)]
  rfl

/-- What the library must do. -/
def LibOk (W : World) (n : Nat) (sp : List AV → Option AV) : Prop := ∀ vals r, sp vals = some r → PureC (Λ W) n vals r

section
variable {W : World} {m : Int} (hm : W.cell? ⟨1, 0, none⟩ = some (.int .i64 m)) (ht : Lib.TabIs Tryz.prog W "internal/strconv.uint64pow10" .u64 Lib.pow10Tab)
include hm ht

theorem lib_ok : libT.All (LibOk W) :=
  (Tr.all_n (lib_atoi (Λ := Λ W) (f := 125) (by rfl) e125 (fun s z w hl h => (Tryz.strconv_Atoi s z hl h w).mono fun _ _ ⟨h1, t, h2⟩ => ⟨h1, h2 ▸ calm_below (Lib.bytesWorld_below _ _ _)⟩))
    (Tr.all_n (lib_repeat (Λ := Λ W) (f := 144) (by rfl) e144 Tryz.strings_Repeat)
    (Tr.all_n (lib_itoa (Λ := Λ W) (f := 142) (by rfl) e142 (fun z w h0 h1 hg => (Tryz.strconv_Itoa z h0 h1 w (tab_good ht hg)).mono fun _ _ ⟨h1, k, os, h2⟩ => ⟨h1, h2 ▸ calm_grow⟩))
    (Tr.all_n (lib_cutPrefix (Λ := Λ W) (f := 88) (by rfl) e88 Tryz.strings_CutPrefix)
    (Tr.all_n (lib_cut (Λ := Λ W) (f := 89) (by rfl) e89 (a := ⟨1, 0, none⟩) (m := m) hm (fun s sep w hs hc => Tryz.strings_Cut s sep m w hs hc))
    Tr.all_l Tr.all_l) Tr.all_l) (Tr.all_n (lib_formatUint (Λ := Λ W) (f := 143) (by rfl) e143 (fun z w hz hg => (Tryz.strconv_FormatUint z hz w (tab_good ht hg)).mono fun _ _ ⟨h1, k, os, h2⟩ => ⟨h1, h2 ▸ calm_grow⟩))
    Tr.all_l Tr.all_l)) (Tr.all_n (lib_hasPrefix (Λ := Λ W) (f := 123) (by rfl) e123 Tryz.strings_HasPrefix)
    (Tr.all_n (lib_mul64 (Λ := Λ W) (f := 128) (by rfl) e128 (fun x y w hx hy => Tryz.bits_Mul64 x y hx hy w))
    Tr.all_l Tr.all_l) (Tr.all_n (lib_trimPrefix (Λ := Λ W) (f := 124) (by rfl) e124 Tryz.strings_TrimPrefix)
    Tr.all_l Tr.all_l))) (Tr.all_n (lib_sub64 (Λ := Λ W) (f := 165) (by rfl) (fun x y b w h => Tryz.bits_Sub64 x y b h w))
    (Tr.all_n (lib_lz64 (Λ := Λ W) (f := 161) (by rfl) e161 (fun x w h0 h1 => Tryz.bits_LeadingZeros64 x w h0 h1))
    (Tr.all_n (lib_trim (Λ := Λ W) (f := 122) (by rfl) e122 (fun s cs w hs hcs ha => Tryz.strings_Trim s cs w hs hcs ha))
    Tr.all_l Tr.all_l) (Tr.all_n (lib_add64 (Λ := Λ W) (f := 164) (by rfl) (fun x y c w h => Tryz.bits_Add64 x y c h w))
    Tr.all_l Tr.all_l)) (Tr.all_n (lib_f64bits (Λ := Λ W) (f := 138) (by rfl) f64bits)
    (Tr.all_n (lib_len64 (Λ := Λ W) (f := 112) (by rfl) e112 (fun x w h0 h1 => Tryz.bits_Len64 x w h0 h1))
    Tr.all_l Tr.all_l) (Tr.all_n (lib_f64frombits (Λ := Λ W) (f := 141) (by rfl) f64frombits)
    Tr.all_l Tr.all_l))))

theorem link_ok : LinkOk (Λ W) where
  hint n f g h := Tr.all_find (p := fun f g => fidT Lk1.fid g = f) (renOk_spec Lk1.ren_ok) h
  mixed := by kernel_rfl
  prog n F h := Tr.all_find Lk1.prog_ok h
  lib n sp vals r h hs := Tr.all_find (lib_ok hm ht) h vals r hs
  libH n sp hp ct vals v hp' ct' h := by cases h
end
end J1
end VE
end
section
/- Pseudorandom permutations: what the rows read, the laws answer. -/
set_option maxRecDepth 100000
namespace VE
namespace J2
open Go Go.Proofs

/-- awake's entry. -/
def T : Tr Ent := .n 179 [.o 7 [] (.bool true)] .l .l
def L1 : VE.Lib := libM VE.lib T 1000

theorem lw : Nd.Dp VE.prog L1 := by
  repeat' (first | rfl | constructor)

theorem awake_call : callPure VE.prog L1 (D VE.prog L1) 179 [] = some (.bool true) := rfl

section
variable {W : World} {m : Int} (hm : W.cell? ⟨1, 0, none⟩ = some (.int .i64 m)) (ht : Go.Lib.TabIs Tryz.prog W "internal/strconv.uint64pow10" .u64 Go.Lib.pow10Tab)
include hm ht

theorem linked : LinkOk ((J1.Λ W).withLib L1) := by
  have hΛ := J1.link_ok hm ht
  have hT : T.All (AllC (J1.Λ W)) := Tr.all_n (AllC.one (VK1.holds hΛ rfl rfl)) Tr.all_l Tr.all_l
  exact libM_ok hΛ hT 1000

theorem draws (key n : Int) : PureC (J1.Λ W) 177 [I64 key, I64 n] (.bool true) := by
  have hΛ' := linked hm ht
  obtain ⟨k, hk⟩ := D_call (Nd.law_draws lw awake_call key n)
  exact sound hΛ' hk

theorem deals (key n : Int) : PureC (J1.Λ W) 178 [I64 key, I64 n] (.bool true) := by
  have hΛ' := linked hm ht
  obtain ⟨k, hk⟩ := D_call (Nd.law_deals lw awake_call key n)
  exact sound hΛ' hk
end
end J2
end VE
end
