import Derived.Lib.AppendIntMem
import Derived.OwnWalk
import Derived.WalkKit
import Derived.Test.YtkhmakhdoedjiaaGreatDoorTaq
import Derived.Test.YtkhmakhdoedjiaaGreatDoorTaa
set_option linter.all false
set_option maxRecDepth 100000
section
namespace Go.Proofs
open Go.Shelf
open Go.RowKit Go.Sort Go.Lib
set_option maxHeartbeats 6400000 in
set_option maxRecDepth 100000 in
theorem Tryz.internal_strconv_FormatUint (u:Nat) (hu64:u<18446744073709551616) (w:World)
  (htab:Lib.TabIs Tryz.prog w "internal/strconv.uint64pow10" .u64 Lib.pow10Tab):
  Calls Tryz.prog 198 #[.int .u64 u,.int .i64 10] w fun e w'=>e= .returned (.string ⟨(Lib.decDigits u).toArray⟩)∧∃k os,w'=grow (w.drewN k) os:=by
 by_cases hs:u<100
 ·go_enter Tryz.func198,Tryz.ntmps198
  go_wp2_with (go_at_call 217;refine (Tryz.internal_strconv_small u hs _).mono ?_;rintro e w' ⟨rfl,rfl⟩)
  go_ret
  exact ⟨rfl,0,#[],by simp [World.drewN_zero]⟩
 ·have hu1:1≤u:=by omega
  have hnd20:Lib.nDigits u≤20:=by have:=Lib.numDigits_eq u hu1 hu64;split at this<;>omega
  have hal:Tryz.prog.arrayLen 238=24:=by simp [Program.arrayLen,Tryz.underlying238]
  have hsl:∀W,(Instr.sliceAt 238 (.pointer (some ⟨w.heap.size,0,none⟩)) none (some (.int .i64 (Lib.nDigits u:Int))) none).run Tryz.prog W= .ok (.slice (some ⟨w.heap.size,0,none⟩) (Lib.nDigits u) 24) W:=fun W=>by
   rw [run_sliceAt_array_h W 238 ⟨w.heap.size,0,none⟩ (by simp [Program.arrayLen,Program.elem,Tryz.underlying238]) .i64 (Lib.nDigits u:Int) (by omega) (by rw [hal];omega)]
   go_simp
  have hH0:=Lib.holds_zero0 w 238 (Lib.nDigits u) (by omega);have hfmt:=Tryz.internal_strconv_formatBase10 w.heap.size 0 24 u (Array.replicate (Lib.nDigits u) 0) (w.alloc (.cells Lib.zeros24 238)) hH0 (by rw [Array.size_replicate];exact Lib.lt_pow_nDigits u) hu64 (by rw [Array.size_replicate];omega)
  rw [Array.size_replicate] at hfmt;have HH0:=Lib.hid hH0;have iu:(100:Int)≤(u:Int):=by omega
  clear hH0 hal
  go_enter Tryz.func198,Tryz.ntmps198
  go_wp2_with (first
   | (go_at_call 218;refine (Tryz.internal_strconv_numDigits u hu1 hu64 _ (Lib.tabIs_alloc htab _)).mono ?_;rintro e w' ⟨rfl,rfl⟩))
  go_at_call 219
  refine hfmt.mono ?_;rintro e w' ⟨rfl,k,v',dk,rfl,hF⟩;have hcv:(convert 204 9 (.slice (some ⟨w.heap.size,0,none⟩) (Lib.nDigits u) 24)).run Tryz.prog ((putRow (fun (b:UInt8)=>Value.int .u8 (b.toNat:Int)) (w.alloc (.cells Lib.zeros24 238)) w.heap.size 0 dk).drewN k)= .ok (.string ⟨(Lib.decDigits u).toArray⟩) ((putRow (fun (b:UInt8)=>Value.int .u8 (b.toNat:Int)) (w.alloc (.cells Lib.zeros24 238)) w.heap.size 0 dk).drewN k):=by
   have h:=run_convert_bytes_back (P:=Tryz.prog) ((putRow (fun (b:UInt8)=>Value.int .u8 (b.toNat:Int)) (w.alloc (.cells Lib.zeros24 238)) w.heap.size 0 dk).drewN k) 204 9 5 ⟨w.heap.size,0,none⟩ 24 (Lib.decDigits u) Tryz.underlying204 Tryz.underlying5 Tryz.underlying9 (fun j hj=>by
    rw [Lib.row_is_numeral hF j hj,Lib.add_plain,World.cell?_drewN]
    exact cell?_putRow (fun (b:UInt8)=>Value.int .u8 (b.toNat:Int)) _ w.heap.size 0 _ dk HH0.out (by rw [hF.size,Array.size_replicate]) j (by rw [hF.size];rw [Lib.decDigits_length] at hj;exact hj))
   rw [Lib.decDigits_length] at h;exact h
  go_wp2
  go_ret
  obtain ⟨os,eo⟩:=Lib.fin_at w (.cells Lib.zeros24 238) dk k 0;exact ⟨rfl,k,os,eo⟩
theorem Tryz.strconv_FormatUint (u:Nat) (hu64:u<18446744073709551616) (w:World)
  (htab:Lib.TabIs Tryz.prog w "internal/strconv.uint64pow10" .u64 Lib.pow10Tab):
  Calls Tryz.prog 173 #[.int .u64 u,.int .i64 10] w fun e w'=>e= .returned (.string ⟨(Lib.decDigits u).toArray⟩)∧∃k os,w'=grow (w.drewN k) os:=by
 go_enter Tryz.func173,Tryz.ntmps173
 go_wp2_with (go_at_call 198;refine (Tryz.internal_strconv_FormatUint u hu64 _ htab).mono ?_;rintro e w' ⟨rfl,k,os,rfl⟩)
 go_ret
 exact ⟨rfl,k,os,rfl⟩
end Go.Proofs
end
section
namespace VE
abbrev Rq (d:Nat) (o:Op):ROp:=⟨some d,none,o⟩
abbrev Rt (d g:Nat) (o:Op):ROp:=⟨some d,some (g,true),o⟩
abbrev Rf (d g:Nat) (o:Op):ROp:=⟨some d,some (g,false),o⟩
abbrev qm (d s:Nat):ROp:=⟨some d,none,.mov (.t s)⟩
abbrev qc0 (d f:Nat):ROp:=⟨some d,none,.call .pure (.c (.fn (.f f) [] [])) []⟩
abbrev qc1 (d f a:Nat):ROp:=⟨some d,none,.call .pure (.c (.fn (.f f) [] [])) [.t a]⟩
abbrev qc2 (d f a b:Nat):ROp:=⟨some d,none,.call .pure (.c (.fn (.f f) [] [])) [.t a,.t b]⟩
abbrev qc3 (d f a b c:Nat):ROp:=⟨some d,none,.call .pure (.c (.fn (.f f) [] [])) [.t a,.t b,.t c]⟩
abbrev qc4 (d f a b c e:Nat):ROp:=⟨some d,none,.call .pure (.c (.fn (.f f) [] [])) [.t a,.t b,.t c,.t e]⟩
abbrev ql (d n s:Nat):ROp:=⟨some d,none,.ld n false (.t s)⟩
abbrev qL (d n s:Nat):ROp:=⟨some d,none,.ld n true (.t s)⟩
abbrev qk (d:Nat) (k:Int):ROp:=⟨some d,none,.mov (.c (.int .i64 k))⟩
abbrev qf (d:Nat):ROp:=⟨some d,none,.mov (.c (.bool false))⟩
abbrev qz (d:Nat):ROp:=⟨some d,none,.mov (.c .nils)⟩
abbrev qi (d n s i:Nat):ROp:=⟨some d,none,.ixa n (.t s) (.t i)⟩
abbrev qo (d n s:Nat):ROp:=⟨some d,none,.off n (.t s)⟩
abbrev qn (d n s:Nat):ROp:=⟨some d,none,.len n (.t s)⟩
abbrev qe (d n s:Nat):ROp:=⟨some d,none,.ext n (.t s)⟩
abbrev qb (d n s:Nat):ROp:=⟨some d,none,.box n (.t s)⟩
abbrev qs (n a b:Nat):ROp:=⟨none,none,.st n (.t a) (.t b)⟩
abbrev qa (d a:Nat) (k:Int):ROp:=⟨some d,none,.bin .add (.t a) (.c (.int .i64 k))⟩
abbrev qN (d a:Nat) (k:Int):ROp:=⟨some d,none,.bin .neq (.t a) (.c (.int .i64 k))⟩
abbrev qE (d a:Nat) (k:Int):ROp:=⟨some d,none,.bin .eql (.t a) (.c (.int .i64 k))⟩
abbrev qA (d a b:Nat):ROp:=⟨some d,none,.bin .add (.t a) (.t b)⟩
abbrev qT (d a b:Nat):ROp:=⟨some d,none,.bin .lss (.t a) (.t b)⟩
abbrev qp (d c b:Nat):ROp:=⟨some d,none,.pick (.t c) (.c (.bool true)) (.t b)⟩
abbrev qq (d c b:Nat):ROp:=⟨some d,none,.pick (.t c) (.t b) (.c (.bool false))⟩
end VE
end
