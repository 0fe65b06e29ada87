import Derived.CallsIn
import Derived.Laws.World
import Derived.Test.YteioemjpepbdgaaGreatDoorModel
set_option linter.all false
namespace VE
open Go
structure Pl where
  b : Nat
  o : Nat
  e : Nat
  z : Nat
abbrev Mp := Nat → Option Pl
section
variable (fid : Nat → Nat) (m : Mp) (S : Nat → Prop) (w : World)
mutual
def Rep : AV → Value → Prop
  | .int k n, v => v = .int k n
  | .bool b, v => v = .bool b
  | .flt k b, v => v = .float k b
  | .str s, v => ∃ t : ByteArray, v = .string t ∧ t.data.toList.map UInt8.toNat = s
  | .nilp, v => v = .pointer none
  | .ptr id o, v => ∃ p, m id = some p ∧ v = .pointer (some ⟨p.b, p.o + o, none⟩)
  | .vptr cs, v => ∃ b o, v = .pointer (some ⟨b, o, none⟩) ∧ (cs = [] ∨ S b) ∧ pureL cs = true ∧ RepAt cs b o
  | .nils, v => v = .slice none 0 0
  | .vsl ex n cs, v => (∃ b o c, v = .slice (some ⟨b, o, none⟩) n c ∧ n ≤ c ∧ (ex = true → c = n) ∧ (cs = [] ∨ S b) ∧ pureL cs = true ∧ RepAt cs b o) ∨ (∃ a, v = .slice (some a) 0 0 ∧ n = 0 ∧ cs = [])
  | .fsl _ _ _ _, _ => False
  | .osl id o n, v => ∃ p c, m id = some p ∧ v = .slice (some ⟨p.b, p.o + o, none⟩) n c ∧ n ≤ c ∧ o + c * p.z = p.e
  | .fn (.f g) first cap, v => ∃ fi ca : Array Value, v = .func (.func (fid g)) fi ca ∧ RepL first fi.toList ∧ RepL cap ca.toList
  | .fn (.y l) _ _, v => ∃ p, m l = some p ∧ v = .func (.yield p.b) #[] #[]
  | .nilf, v => v = .nilFunc
  | .nilm, v => v = .map none
  | .map id, v => ∃ p, m id = some p ∧ v = .map (some p.b)
  | .vmap ks vs, v => ∃ b es clock, v = .map (some b) ∧ S b ∧ pureL ks = true ∧ pureL vs = true ∧ w.heap[b]? = some (.map es clock) ∧
      RepL ks (es.toList.map (·.key)) ∧ RepL vs (es.toList.map (·.val))
  | .it id, v => ∃ p, m id = some p ∧ v = .pointer (some ⟨p.b, 0, none⟩)
  | .agg cs, v => ∃ xs : Array Value, v = .agg xs ∧ RepL cs xs.toList
  | .tup cs, v => ∃ xs : Array Value, v = .tuple xs ∧ RepL cs xs.toList
  | .undef, _ => True
def RepL : List AV → List Value → Prop
  | [], us => us = []
  | c :: cs, us => ∃ u r, us = u :: r ∧ Rep c u ∧ RepL cs r
def RepAt : List AV → Nat → Nat → Prop
  | [], _, _ => True
  | c :: cs, b, o => (∃ u, w.cell? ⟨b, o, none⟩ = some u ∧ Rep c u) ∧ RepAt cs b (o + 1)
end
end
def SameOn (S : Nat → Prop) (w w' : World) : Prop := ∀ b, S b → w'.heap[b]? = w.heap[b]?
theorem cell_of_same {w w' : World} {b o : Nat} (h : w'.heap[b]? = w.heap[b]?) : w'.cell? ⟨b, o, none⟩ = w.cell? ⟨b, o, none⟩ := by
  simp only [World.cell?, h]
section
variable {fid : Nat → Nat} {m m' : Mp} {S S' : Nat → Prop} {w w' : World}
mutual
theorem rep_mono (hm : ∀ id p, m id = some p → m' id = some p) (hS : ∀ b, S b → S' b) (hw : SameOn S w w') :
    ∀ (v : AV) (u : Value), Rep fid m S w v u → Rep fid m' S' w' v u
  | .int _ _, _, h | .bool _, _, h | .flt _ _, _, h | .str _, _, h | .nilp, _, h | .nils, _, h | .nilf, _, h | .nilm, _, h | .undef, _, h => by
    simpa only [Rep] using h
  | .ptr id o, u, h => by
    simp only [Rep] at h ⊢; obtain ⟨p, h1, h2⟩ := h; exact ⟨p, hm _ _ h1, h2⟩
  | .vptr cs, u, h => by
    simp only [Rep] at h ⊢
    obtain ⟨b, o, h1, h2, h3, h4⟩ := h
    refine ⟨b, o, h1, h2.imp id (hS b), h3, ?_⟩
    rcases h2 with rfl | h2
    · simp only [RepAt]
    · exact repAt_mono hm hS hw cs b o h2 h4
  | .vsl ex n cs, u, h => by
    simp only [Rep] at h ⊢
    rcases h with ⟨b, o, c, h1, h2, h3, h4, h5, h6⟩ | h
    · refine .inl ⟨b, o, c, h1, h2, h3, h4.imp id (hS b), h5, ?_⟩
      rcases h4 with rfl | h4
      · simp only [RepAt]
      · exact repAt_mono hm hS hw cs b o h4 h6
    · exact .inr h
  | .fsl _ _ _ _, u, h => by simp only [Rep] at h
  | .osl id o n, u, h => by
    simp only [Rep] at h ⊢; obtain ⟨p, c, h1, h2⟩ := h; exact ⟨p, c, hm _ _ h1, h2⟩
  | .fn (.f g) first cap, u, h => by
    simp only [Rep] at h ⊢
    obtain ⟨fi, ca, h1, h2, h3⟩ := h
    exact ⟨fi, ca, h1, repL_mono hm hS hw first _ h2, repL_mono hm hS hw cap _ h3⟩
  | .fn (.y l) _ _, u, h => by
    simp only [Rep] at h ⊢; obtain ⟨p, h1, h2⟩ := h; exact ⟨p, hm _ _ h1, h2⟩
  | .map id, u, h => by
    simp only [Rep] at h ⊢; obtain ⟨p, h1, h2⟩ := h; exact ⟨p, hm _ _ h1, h2⟩
  | .vmap ks vs, u, h => by
    simp only [Rep] at h ⊢
    obtain ⟨b, es, clock, h1, h2, h3, h4, h5, h6, h7⟩ := h
    exact ⟨b, es, clock, h1, hS b h2, h3, h4, (hw b h2).trans h5, repL_mono hm hS hw ks _ h6, repL_mono hm hS hw vs _ h7⟩
  | .it id, u, h => by
    simp only [Rep] at h ⊢; obtain ⟨p, h1, h2⟩ := h; exact ⟨p, hm _ _ h1, h2⟩
  | .agg cs, u, h => by
    simp only [Rep] at h ⊢; obtain ⟨xs, h1, h2⟩ := h; exact ⟨xs, h1, repL_mono hm hS hw cs _ h2⟩
  | .tup cs, u, h => by
    simp only [Rep] at h ⊢; obtain ⟨xs, h1, h2⟩ := h; exact ⟨xs, h1, repL_mono hm hS hw cs _ h2⟩
theorem repL_mono (hm : ∀ id p, m id = some p → m' id = some p) (hS : ∀ b, S b → S' b) (hw : SameOn S w w') :
    ∀ (vs : List AV) (us : List Value), RepL fid m S w vs us → RepL fid m' S' w' vs us
  | [], us, h => by simpa only [RepL] using h
  | v :: r, us, h => by
    simp only [RepL] at h ⊢
    obtain ⟨u, t, h1, h2, h3⟩ := h
    exact ⟨u, t, h1, rep_mono hm hS hw v u h2, repL_mono hm hS hw r t h3⟩
theorem repAt_mono (hm : ∀ id p, m id = some p → m' id = some p) (hS : ∀ b, S b → S' b) (hw : SameOn S w w') :
    ∀ (cs : List AV) (b o : Nat), S b → RepAt fid m S w cs b o → RepAt fid m' S' w' cs b o
  | [], _, _, _, _ => by simp only [RepAt]
  | c :: cs, b, o, hb, h => by
    simp only [RepAt] at h ⊢
    obtain ⟨⟨u, h1, h2⟩, h3⟩ := h
    exact ⟨⟨u, (cell_of_same (hw b hb)).trans h1, rep_mono hm hS hw c u h2⟩, repAt_mono hm hS hw cs b (o + 1) hb h3⟩
end
end
end VE
