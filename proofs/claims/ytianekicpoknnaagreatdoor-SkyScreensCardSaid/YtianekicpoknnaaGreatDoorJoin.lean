import Derived.Lib.AtoiErrMem
import Derived.Test.YtianekicpoknnaaGreatDoorLibC
import Derived.Test.YtianekicpoknnaaGreatDoorShelfB
import Derived.Test.YtianekicpoknnaaGreatDoorLink
import Derived.Test.YtianekicpoknnaaGreatDoorAwake
import Derived.Test.YtianekicpoknnaaGreatDoorSkyC
import Derived.Test.YtianekicpoknnaaGreatDoorLaw
import Derived.Test.YtianekicpoknnaaGreatDoorShape
set_option linter.all false
section
/- The seat's link. -/
set_option maxRecDepth 100000
namespace VE
namespace J1
open Go Go.Proofs

/-- The link at a world. -/
noncomputable def Λ (W : World) : Link := ⟨Tryz.prog, VE.lib, fidT Lk1.fid, VE.prog, hintT Lk1.ren Lk1.hd, W⟩

theorem calm_grow {w : World} {k : Nat} {os : Array Go.Obj} : Calm w (Go.Sort.grow (w.drewN k) os) := calm_below (Lib.below_grow w.heap.size w (Nat.le_refl _) k os)

theorem tab_good {W w : World} (h : Lib.TabIs Tryz.prog W "internal/strconv.uint64pow10" .u64 Lib.pow10Tab) (hg : GoodW (Λ W) w) : Lib.TabIs Tryz.prog w "internal/strconv.uint64pow10" .u64 Lib.pow10Tab := by
  unfold Lib.TabIs World.var? at h ⊢
  cases hn : Tryz.prog.globalNamed "internal/strconv.uint64pow10" with
  | none => rw [hn] at h; exact h
  | some g =>
    rw [hn] at h
    simp only [Option.bind_some] at h ⊢
    have hb : g < W.heap.size := by
      cases hq : W.heap[g]? with
      | none => rw [hq] at h; cases h
      | some o => exact (Array.getElem?_eq_some_iff.1 hq).1
    rw [hg.1 g hb]
    exact h

theorem e115 : ∀ args w, (callFunc 115 args).run Tryz.prog w = .ok (.enter 115 args) w := enters_of Tryz.func115 (by kernel_rfl) rfl
theorem e135 : ∀ args w, (callFunc 135 args).run Tryz.prog w = .ok (.enter 135 args) w := enters_of Tryz.func135 (by kernel_rfl) rfl
theorem e139 : ∀ args w, (callFunc 139 args).run Tryz.prog w = .ok (.enter 139 args) w := enters_of Tryz.func139 (by kernel_rfl) rfl
theorem e142 : ∀ args w, (callFunc 142 args).run Tryz.prog w = .ok (.enter 142 args) w := enters_of Tryz.func142 (by kernel_rfl) rfl
theorem e143 : ∀ args w, (callFunc 143 args).run Tryz.prog w = .ok (.enter 143 args) w := enters_of Tryz.func143 (by kernel_rfl) rfl
theorem e149 : ∀ args w, (callFunc 149 args).run Tryz.prog w = .ok (.enter 149 args) w := enters_of Tryz.func149 (by kernel_rfl) rfl
theorem e157 : ∀ args w, (callFunc 157 args).run Tryz.prog w = .ok (.enter 157 args) w := enters_of Tryz.func157 (by kernel_rfl) rfl
theorem e158 : ∀ args w, (callFunc 158 args).run Tryz.prog w = .ok (.enter 158 args) w := enters_of Tryz.func158 (by kernel_rfl) rfl
theorem e159 : ∀ args w, (callFunc 159 args).run Tryz.prog w = .ok (.enter 159 args) w := enters_of Tryz.func159 (by kernel_rfl) rfl
theorem e167 : ∀ args w, (callFunc 167 args).run Tryz.prog w = .ok (.enter 167 args) w := enters_of Tryz.func167 (by kernel_rfl) rfl
theorem e173 : ∀ args w, (callFunc 173 args).run Tryz.prog w = .ok (.enter 173 args) w := enters_of Tryz.func173 (by kernel_rfl) rfl
theorem e197 : ∀ args w, (callFunc 197 args).run Tryz.prog w = .ok (.enter 197 args) w := enters_of Tryz.func197 (by kernel_rfl) rfl

/-- What the library must do. -/
def LibOk (W : World) (n : Nat) (sp : List AV → Option AV) : Prop := ∀ vals r, sp vals = some r → PureC (Λ W) n vals r

section
variable {W : World} {m : Int} (hm : W.cell? ⟨2, 0, none⟩ = some (.int .i64 m)) (ht : Lib.TabIs Tryz.prog W "internal/strconv.uint64pow10" .u64 Lib.pow10Tab)
include hm ht

theorem lib_ok : libT.All (LibOk W) :=
  Tr.all_n (lib_trimPrefix (Λ := Λ W) (f := 158) (by rfl) e158 Tryz.strings_TrimPrefix)
    (Tr.all_n (lib_formatUint (Λ := Λ W) (f := 142) (by rfl) e142 (fun z w hz hg => (Tryz.strconv_FormatUint z hz w (tab_good ht hg)).mono fun _ _ ⟨h1, k, os, h2⟩ => ⟨h1, h2 ▸ calm_grow⟩))
      (Tr.all_n (lib_cutPrefix (Λ := Λ W) (f := 135) (by rfl) e135 Tryz.strings_CutPrefix)
        (Tr.all_n (lib_cut (Λ := Λ W) (f := 115) (by rfl) e115 (a := ⟨2, 0, none⟩) (m := m) hm (fun s sep w hs hc => Tryz.strings_Cut s sep m w hs hc)) Tr.all_l Tr.all_l)
        (Tr.all_n (lib_itoa (Λ := Λ W) (f := 139) (by rfl) e139 (fun z w h0 h1 hg => (Tryz.strconv_Itoa z h0 h1 w (tab_good ht hg)).mono fun _ _ ⟨h1, k, os, h2⟩ => ⟨h1, h2 ▸ calm_grow⟩)) Tr.all_l Tr.all_l))
      (Tr.all_n (lib_mul64 (Λ := Λ W) (f := 149) (by rfl) e149 (fun x y w hx hy => Tryz.bits_Mul64 x y hx hy w))
        (Tr.all_n (lib_repeat (Λ := Λ W) (f := 143) (by rfl) e143 Tryz.strings_Repeat) Tr.all_l Tr.all_l)
        (Tr.all_n (lib_hasPrefix (Λ := Λ W) (f := 157) (by rfl) e157 Tryz.strings_HasPrefix) Tr.all_l Tr.all_l)))
    (Tr.all_n (lib_add64 (Λ := Λ W) (f := 181) (by rfl) (fun x y c w h => Tryz.bits_Add64 x y c h w))
      (Tr.all_n (lib_trim (Λ := Λ W) (f := 167) (by rfl) e167 (fun s cs w hs hcs ha => Tryz.strings_Trim s cs w hs hcs ha))
        (Tr.all_n (lib_atoi (Λ := Λ W) (f := 159) (by rfl) e159 (fun s z w hl h => (Tryz.strconv_Atoi s z hl h w).mono fun _ _ ⟨h1, t, h2⟩ => ⟨h1, h2 ▸ calm_below (Lib.bytesWorld_below _ _ _)⟩)) Tr.all_l Tr.all_l)
        (Tr.all_n (lib_lz64 (Λ := Λ W) (f := 173) (by rfl) e173 (fun x w h0 h1 => Tryz.bits_LeadingZeros64 x w h0 h1)) Tr.all_l Tr.all_l))
      (Tr.all_n (lib_len64 (Λ := Λ W) (f := 197) (by rfl) e197 (fun x w h0 h1 => Tryz.bits_Len64 x w h0 h1))
        (Tr.all_n (lib_sub64 (Λ := Λ W) (f := 188) (by rfl) (fun x y b w h => Tryz.bits_Sub64 x y b h w)) Tr.all_l Tr.all_l) Tr.all_l))

theorem link_ok : LinkOk (Λ W) where
  hint n f g h := Tr.all_find (p := fun f g => fidT Lk1.fid g = f) (renOk_spec Lk1.ren_ok) h
  mixed := by kernel_rfl
  prog n F h := Tr.all_find Lk1.prog_ok h
  lib n sp vals r h hs := Tr.all_find (lib_ok hm ht) h vals r hs
  libH n sp hp ct vals v hp' ct' h := by cases h
end
end J1
end VE
end
section
/- SkyScreens: what the row reads, the law answers. -/
set_option maxRecDepth 100000
namespace VE
namespace J2
open Go Go.Proofs

/-- awake's entry. -/
def T : Tr Ent := .n 1 [([], .bool true)] .l .l
def L1 : VE.Lib := libM VE.lib T 1000

theorem lw : LwP VE.prog L1 := by
  repeat' (first | rfl | constructor)

theorem awake_call : callPure VE.prog L1 (D VE.prog L1) 1 [] = some (.bool true) := rfl

section
variable {W : World} {m : Int} (hm : W.cell? ⟨2, 0, none⟩ = some (.int .i64 m)) (ht : Go.Lib.TabIs Tryz.prog W "internal/strconv.uint64pow10" .u64 Go.Lib.pow10Tab)
include hm ht

theorem screens {wv sv kv : AV} {w : List Int} {s k : List (List Int)} (hw : IsI wv w) (hs : IsS sv s) (hk : IsS kv k) (key side : Int) :
    PureC (J1.Λ W) 0 [.agg [I64 key, I64 side, wv], sv, kv] (.bool true) := by
  have hΛ := J1.link_ok hm ht
  have hT : T.All (AllC (J1.Λ W)) := Tr.all_n (fun vals r h => by
    rcases List.mem_cons.1 h with h | h
    · injection h with h1 h2
      subst h1; subst h2
      exact VK1.holds hΛ rfl rfl
    · cases h) Tr.all_l Tr.all_l
  have hΛ' : LinkOk ((J1.Λ W).withLib L1) := libM_ok hΛ hT 1000
  obtain ⟨n, hn⟩ := D_call (law_screens lw awake_call hw hs hk key side)
  exact sound hΛ' hn
end
end J2
end VE
end
