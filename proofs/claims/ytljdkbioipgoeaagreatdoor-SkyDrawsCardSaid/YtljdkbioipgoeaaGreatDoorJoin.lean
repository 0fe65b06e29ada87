import Derived.Lib.AtoiErrMem
import Derived.Test.YtljdkbioipgoeaaGreatDoorLibC
import Derived.Test.YtljdkbioipgoeaaGreatDoorShelfB
import Derived.Test.YtljdkbioipgoeaaGreatDoorLink
import Derived.Test.YtljdkbioipgoeaaGreatDoorAwake
import Derived.Test.YtljdkbioipgoeaaGreatDoorLaw
import Derived.Test.YtljdkbioipgoeaaGreatDoorSkyC
import Derived.Test.YtljdkbioipgoeaaGreatDoorShape
set_option linter.all false
section
/- The seat's link. -/
set_option maxRecDepth 100000
namespace VE
namespace J1
open Go Go.Proofs

/-- The link at a world. -/
noncomputable def Λ (W : World) : Link := ⟨Tryz.prog, VE.lib, fidT Lk1.fid, VE.prog, hintT Lk1.ren Lk1.hd, W⟩

theorem calm_grow {w : World} {k : Nat} {os : Array Go.Obj} : Calm w (Go.Sort.grow (w.drewN k) os) := calm_below (Lib.below_grow w.heap.size w (Nat.le_refl _) k os)

theorem tab_good {W w : World} (h : Lib.TabIs Tryz.prog W "internal/strconv.uint64pow10" .u64 Lib.pow10Tab) (hg : GoodW (Λ W) w) : Lib.TabIs Tryz.prog w "internal/strconv.uint64pow10" .u64 Lib.pow10Tab := by
  unfold Lib.TabIs World.var? at h ⊢
  cases hn : Tryz.prog.globalNamed "internal/strconv.uint64pow10" with
  | none => rw [hn] at h; exact h
  | some g =>
    rw [hn] at h
    simp only [Option.bind_some] at h ⊢
    have hb : g < W.heap.size := by
      cases hq : W.heap[g]? with
      | none => rw [hq] at h; cases h
      | some o => exact (Array.getElem?_eq_some_iff.1 hq).1
    rw [hg.1 g hb]
    exact h

theorem e106 : ∀ args w, (callFunc 106 args).run Tryz.prog w = .ok (.enter 106 args) w := enters_of Tryz.func106 (by kernel_rfl) rfl
theorem e126 : ∀ args w, (callFunc 126 args).run Tryz.prog w = .ok (.enter 126 args) w := enters_of Tryz.func126 (by kernel_rfl) rfl
theorem e130 : ∀ args w, (callFunc 130 args).run Tryz.prog w = .ok (.enter 130 args) w := enters_of Tryz.func130 (by kernel_rfl) rfl
theorem e133 : ∀ args w, (callFunc 133 args).run Tryz.prog w = .ok (.enter 133 args) w := enters_of Tryz.func133 (by kernel_rfl) rfl
theorem e134 : ∀ args w, (callFunc 134 args).run Tryz.prog w = .ok (.enter 134 args) w := enters_of Tryz.func134 (by kernel_rfl) rfl
theorem e140 : ∀ args w, (callFunc 140 args).run Tryz.prog w = .ok (.enter 140 args) w := enters_of Tryz.func140 (by kernel_rfl) rfl
theorem e148 : ∀ args w, (callFunc 148 args).run Tryz.prog w = .ok (.enter 148 args) w := enters_of Tryz.func148 (by kernel_rfl) rfl
theorem e149 : ∀ args w, (callFunc 149 args).run Tryz.prog w = .ok (.enter 149 args) w := enters_of Tryz.func149 (by kernel_rfl) rfl
theorem e150 : ∀ args w, (callFunc 150 args).run Tryz.prog w = .ok (.enter 150 args) w := enters_of Tryz.func150 (by kernel_rfl) rfl
theorem e158 : ∀ args w, (callFunc 158 args).run Tryz.prog w = .ok (.enter 158 args) w := enters_of Tryz.func158 (by kernel_rfl) rfl
theorem e164 : ∀ args w, (callFunc 164 args).run Tryz.prog w = .ok (.enter 164 args) w := enters_of Tryz.func164 (by kernel_rfl) rfl
theorem e188 : ∀ args w, (callFunc 188 args).run Tryz.prog w = .ok (.enter 188 args) w := enters_of Tryz.func188 (by kernel_rfl) rfl

/-- What the library must do. -/
def LibOk (W : World) (n : Nat) (sp : List AV → Option AV) : Prop := ∀ vals r, sp vals = some r → PureC (Λ W) n vals r

section
variable {W : World} {m : Int} (hm : W.cell? ⟨2, 0, none⟩ = some (.int .i64 m)) (ht : Lib.TabIs Tryz.prog W "internal/strconv.uint64pow10" .u64 Lib.pow10Tab)
include hm ht

theorem lib_ok : libT.All (LibOk W) :=
  Tr.all_n (lib_trimPrefix (Λ := Λ W) (f := 149) (by rfl) e149 Tryz.strings_TrimPrefix)
    (Tr.all_n (lib_formatUint (Λ := Λ W) (f := 133) (by rfl) e133 (fun z w hz hg => (Tryz.strconv_FormatUint z hz w (tab_good ht hg)).mono fun _ _ ⟨h1, k, os, h2⟩ => ⟨h1, h2 ▸ calm_grow⟩))
      (Tr.all_n (lib_cutPrefix (Λ := Λ W) (f := 126) (by rfl) e126 Tryz.strings_CutPrefix)
        (Tr.all_n (lib_cut (Λ := Λ W) (f := 106) (by rfl) e106 (a := ⟨2, 0, none⟩) (m := m) hm (fun s sep w hs hc => Tryz.strings_Cut s sep m w hs hc)) Tr.all_l Tr.all_l)
        (Tr.all_n (lib_itoa (Λ := Λ W) (f := 130) (by rfl) e130 (fun z w h0 h1 hg => (Tryz.strconv_Itoa z h0 h1 w (tab_good ht hg)).mono fun _ _ ⟨h1, k, os, h2⟩ => ⟨h1, h2 ▸ calm_grow⟩)) Tr.all_l Tr.all_l))
      (Tr.all_n (lib_mul64 (Λ := Λ W) (f := 140) (by rfl) e140 (fun x y w hx hy => Tryz.bits_Mul64 x y hx hy w))
        (Tr.all_n (lib_repeat (Λ := Λ W) (f := 134) (by rfl) e134 Tryz.strings_Repeat) Tr.all_l Tr.all_l)
        (Tr.all_n (lib_hasPrefix (Λ := Λ W) (f := 148) (by rfl) e148 Tryz.strings_HasPrefix) Tr.all_l Tr.all_l)))
    (Tr.all_n (lib_add64 (Λ := Λ W) (f := 172) (by rfl) (fun x y c w h => Tryz.bits_Add64 x y c h w))
      (Tr.all_n (lib_trim (Λ := Λ W) (f := 158) (by rfl) e158 (fun s cs w hs hcs ha => Tryz.strings_Trim s cs w hs hcs ha))
        (Tr.all_n (lib_atoi (Λ := Λ W) (f := 150) (by rfl) e150 (fun s z w hl h => (Tryz.strconv_Atoi s z hl h w).mono fun _ _ ⟨h1, t, h2⟩ => ⟨h1, h2 ▸ calm_below (Lib.bytesWorld_below _ _ _)⟩)) Tr.all_l Tr.all_l)
        (Tr.all_n (lib_lz64 (Λ := Λ W) (f := 164) (by rfl) e164 (fun x w h0 h1 => Tryz.bits_LeadingZeros64 x w h0 h1)) Tr.all_l Tr.all_l))
      (Tr.all_n (lib_len64 (Λ := Λ W) (f := 188) (by rfl) e188 (fun x w h0 h1 => Tryz.bits_Len64 x w h0 h1))
        (Tr.all_n (lib_sub64 (Λ := Λ W) (f := 179) (by rfl) (fun x y b w h => Tryz.bits_Sub64 x y b h w)) Tr.all_l Tr.all_l) Tr.all_l))

theorem link_ok : LinkOk (Λ W) where
  hint n f g h := Tr.all_find (p := fun f g => fidT Lk1.fid g = f) (renOk_spec Lk1.ren_ok) h
  mixed := by kernel_rfl
  prog n F h := Tr.all_find Lk1.prog_ok h
  lib n sp vals r h hs := Tr.all_find (lib_ok hm ht) h vals r hs
  libH n sp hp ct vals v hp' ct' h := by cases h
end
end J1
end VE
end
section
/- SkyDraws: what the row reads, the law answers. -/
set_option maxRecDepth 100000
namespace VE
namespace J2
open Go Go.Proofs

/-- awake's entry. -/
def T : Tr Ent := .n 1 [([], .bool true)] .l .l
def L1 : VE.Lib := libM VE.lib T 1000

theorem lw : LdP VE.prog L1 := by
  repeat' (first | rfl | constructor)

theorem awake_call : callPure VE.prog L1 (D VE.prog L1) 1 [] = some (.bool true) := rfl

section
variable {W : World} {m : Int} (hm : W.cell? ⟨2, 0, none⟩ = some (.int .i64 m)) (ht : Go.Lib.TabIs Tryz.prog W "internal/strconv.uint64pow10" .u64 Go.Lib.pow10Tab)
include hm ht

theorem draws {wv sv : AV} {w : List Int} {s : List (List Int)} (hw : IsI wv w) (hs : IsS sv s) (key side : Int) {x y : Int} (hx : 0 ≤ x ∧ x < 256) (hy : 0 ≤ y ∧ y < 256) :
    PureC (J1.Λ W) 176 [.agg [I64 key, I64 side, wv], sv, .agg [.int .u8 x, .int .u8 y]] (.bool true) := by
  have hΛ := J1.link_ok hm ht
  have hT : T.All (AllC (J1.Λ W)) := Tr.all_n (fun vals r h => by
    rcases List.mem_cons.1 h with h | h
    · injection h with h1 h2
      subst h1; subst h2
      exact VK1.holds hΛ rfl rfl
    · cases h) Tr.all_l Tr.all_l
  have hΛ' : LinkOk ((J1.Λ W).withLib L1) := libM_ok hΛ hT 1000
  obtain ⟨n, hn⟩ := D_call (law_draws lw awake_call hw hs key side hx hy)
  exact sound hΛ' hn
end
end J2
end VE
end
