import Derived.Lib.AtoiErrMem
import Derived.Test.YteioemjpepbdgaaGreatDoorLibC
import Derived.Test.YteioemjpepbdgaaGreatDoorShelfB
import Derived.Test.YteioemjpepbdgaaGreatDoorLink
import Derived.Test.YteioemjpepbdgaaGreatDoorAwake
import Derived.Test.YteioemjpepbdgaaGreatDoorLaw
import Derived.Test.YteioemjpepbdgaaGreatDoorStatC
import Derived.Test.YteioemjpepbdgaaGreatDoorShape
set_option linter.all false
section
set_option maxRecDepth 100000
namespace VE
namespace J1
open Go Go.Proofs
noncomputable def Λ (W : World) : Link := ⟨Tryz.prog, VE.lib, fidT Lk1.fid, VE.prog, hintT Lk1.ren Lk1.hd, W⟩
theorem calm_grow {w : World} {k : Nat} {os : Array Go.Obj} : Calm w (Go.Sort.grow (w.drewN k) os) := calm_below (Lib.below_grow w.heap.size w (Nat.le_refl _) k os)
theorem tab_good {W w : World} (h : Lib.TabIs Tryz.prog W "internal/strconv.uint64pow10" .u64 Lib.pow10Tab) (hg : GoodW (Λ W) w) : Lib.TabIs Tryz.prog w "internal/strconv.uint64pow10" .u64 Lib.pow10Tab := by
  unfold Lib.TabIs World.var? at h ⊢
  cases hn : Tryz.prog.globalNamed "internal/strconv.uint64pow10" with
  | none => rw [hn] at h; exact h
  | some g =>
    rw [hn] at h
    simp only [Option.bind_some] at h ⊢
    have hb : g < W.heap.size := by
      cases hq : W.heap[g]? with
      | none => rw [hq] at h; cases h
      | some o => exact (Array.getElem?_eq_some_iff.1 hq).1
    rw [hg.1 g hb]
    exact h
theorem e130 : ∀ args w, (callFunc 130 args).run Tryz.prog w = .ok (.enter 130 args) w := enters_of Tryz.func130 (by kernel_rfl) rfl
theorem e150 : ∀ args w, (callFunc 150 args).run Tryz.prog w = .ok (.enter 150 args) w := enters_of Tryz.func150 (by kernel_rfl) rfl
theorem e153 : ∀ args w, (callFunc 153 args).run Tryz.prog w = .ok (.enter 153 args) w := enters_of Tryz.func153 (by kernel_rfl) rfl
theorem e156 : ∀ args w, (callFunc 156 args).run Tryz.prog w = .ok (.enter 156 args) w := enters_of Tryz.func156 (by kernel_rfl) rfl
theorem e157 : ∀ args w, (callFunc 157 args).run Tryz.prog w = .ok (.enter 157 args) w := enters_of Tryz.func157 (by kernel_rfl) rfl
theorem e163 : ∀ args w, (callFunc 163 args).run Tryz.prog w = .ok (.enter 163 args) w := enters_of Tryz.func163 (by kernel_rfl) rfl
theorem e186 : ∀ args w, (callFunc 186 args).run Tryz.prog w = .ok (.enter 186 args) w := enters_of Tryz.func186 (by kernel_rfl) rfl
theorem e187 : ∀ args w, (callFunc 187 args).run Tryz.prog w = .ok (.enter 187 args) w := enters_of Tryz.func187 (by kernel_rfl) rfl
theorem e188 : ∀ args w, (callFunc 188 args).run Tryz.prog w = .ok (.enter 188 args) w := enters_of Tryz.func188 (by kernel_rfl) rfl
theorem e196 : ∀ args w, (callFunc 196 args).run Tryz.prog w = .ok (.enter 196 args) w := enters_of Tryz.func196 (by kernel_rfl) rfl
theorem e202 : ∀ args w, (callFunc 202 args).run Tryz.prog w = .ok (.enter 202 args) w := enters_of Tryz.func202 (by kernel_rfl) rfl
theorem e232 : ∀ args w, (callFunc 232 args).run Tryz.prog w = .ok (.enter 232 args) w := enters_of Tryz.func232 (by kernel_rfl) rfl
def LibOk (W : World) (n : Nat) (sp : List AV → Option AV) : Prop := ∀ vals r, sp vals = some r → PureC (Λ W) n vals r
section
variable {W : World} {m : Int} (hm : W.cell? ⟨2, 0, none⟩ = some (.int .i64 m)) (ht : Lib.TabIs Tryz.prog W "internal/strconv.uint64pow10" .u64 Lib.pow10Tab)
include hm ht
theorem lib_ok : libT.All (LibOk W) :=
  (Tr.all_n (lib_trimPrefix (Λ := Λ W) (f := 187) (by rfl) e187 Tryz.strings_TrimPrefix)
    (Tr.all_n (lib_formatUint (Λ := Λ W) (f := 156) (by rfl) e156 (fun z w hz hg => (Tryz.strconv_FormatUint z hz w (tab_good ht hg)).mono fun _ _ ⟨h1, k, os, h2⟩ => ⟨h1, h2 ▸ calm_grow⟩))
    (Tr.all_n (lib_cutPrefix (Λ := Λ W) (f := 150) (by rfl) e150 Tryz.strings_CutPrefix)
    (Tr.all_n (lib_cut (Λ := Λ W) (f := 130) (by rfl) e130 (a := ⟨2, 0, none⟩) (m := m) hm (fun s sep w hs hc => Tryz.strings_Cut s sep m w hs hc))
    Tr.all_l Tr.all_l) (Tr.all_n (lib_itoa (Λ := Λ W) (f := 153) (by rfl) e153 (fun z w h0 h1 hg => (Tryz.strconv_Itoa z h0 h1 w (tab_good ht hg)).mono fun _ _ ⟨h1, k, os, h2⟩ => ⟨h1, h2 ▸ calm_grow⟩))
    Tr.all_l Tr.all_l)) (Tr.all_n (lib_mul64 (Λ := Λ W) (f := 163) (by rfl) e163 (fun x y w hx hy => Tryz.bits_Mul64 x y hx hy w))
    (Tr.all_n (lib_repeat (Λ := Λ W) (f := 157) (by rfl) e157 Tryz.strings_Repeat)
    Tr.all_l Tr.all_l) (Tr.all_n (lib_hasPrefix (Λ := Λ W) (f := 186) (by rfl) e186 Tryz.strings_HasPrefix)
    Tr.all_l Tr.all_l))) (Tr.all_n (lib_add64 (Λ := Λ W) (f := 210) (by rfl) (fun x y c w h => Tryz.bits_Add64 x y c h w))
    (Tr.all_n (lib_trim (Λ := Λ W) (f := 196) (by rfl) e196 (fun s cs w hs hcs ha => Tryz.strings_Trim s cs w hs hcs ha))
    (Tr.all_n (lib_atoi (Λ := Λ W) (f := 188) (by rfl) e188 (fun s z w hl h => (Tryz.strconv_Atoi s z hl h w).mono fun _ _ ⟨h1, t, h2⟩ => ⟨h1, h2 ▸ calm_below (Lib.bytesWorld_below _ _ _)⟩))
    Tr.all_l Tr.all_l) (Tr.all_n (lib_lz64 (Λ := Λ W) (f := 202) (by rfl) e202 (fun x w h0 h1 => Tryz.bits_LeadingZeros64 x w h0 h1))
    Tr.all_l Tr.all_l)) (Tr.all_n (lib_len64 (Λ := Λ W) (f := 232) (by rfl) e232 (fun x w h0 h1 => Tryz.bits_Len64 x w h0 h1))
    (Tr.all_n (lib_sub64 (Λ := Λ W) (f := 223) (by rfl) (fun x y b w h => Tryz.bits_Sub64 x y b h w))
    Tr.all_l Tr.all_l) Tr.all_l)))
theorem link_ok : LinkOk (Λ W) where
  hint n f g h := Tr.all_find (p := fun f g => fidT Lk1.fid g = f) (renOk_spec Lk1.ren_ok) h
  mixed := by kernel_rfl
  prog n F h := Tr.all_find Lk1.prog_ok h
  lib n sp vals r h hs := Tr.all_find (lib_ok hm ht) h vals r hs
  libH n sp hp ct vals v hp' ct' h := by cases h
end
end J1
end VE
end
section
set_option maxRecDepth 100000
namespace VE
namespace J2
open Go Go.Proofs
def T : List (Tr Ent) := [.n 1 [.o 7 [] (.bool true)] .l .l]
def L1 : VE.Lib := libM VE.lib T 1000
theorem lw : SsP VE.prog L1 := by
  repeat' (first | rfl | constructor)
theorem awake_call : callPure VE.prog L1 (D VE.prog L1) 1 [] = some (.bool true) := rfl
section
variable {W : World} {m : Int} (hm : W.cell? ⟨2, 0, none⟩ = some (.int .i64 m)) (ht : Go.Lib.TabIs Tryz.prog W "internal/strconv.uint64pow10" .u64 Go.Lib.pow10Tab)
include hm ht
theorem linked : LinkOk ((J1.Λ W).withLib L1) := by
  have hΛ := J1.link_ok hm ht
  have hT : AllT (J1.Λ W) T := AllT.cons (Tr.all_n (AllC.one (VK1.holds hΛ rfl rfl)) Tr.all_l Tr.all_l) AllT.nil
  exact libM_ok hΛ hT 1000
theorem statistics {v : AV} {s : List (List Int)} (hs : IsS v s) (a b : Int) : PureC (J1.Λ W) 253 [v, I64 a, I64 b] (.bool true) := by
  have hΛ' := linked hm ht
  obtain ⟨k, hk⟩ := D_call (law_statistics lw awake_call hs a b)
  exact sound hΛ' hk
end
end J2
end VE
end
