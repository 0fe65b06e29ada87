import Derived.Lib.AppendIntMem
import Derived.OwnWalk
import Derived.WalkKit
import Derived.Test.YtfohkkaphnfgoaaGreatDoorTaf
import Derived.Test.YtfohkkaphnfgoaaGreatDoorTaa
set_option linter.all false
set_option maxRecDepth 100000
open Array renaming size_replicate→vA
section
namespace Go.Proofs
open Go.Shelf
open Go.RowKit Go.Sort Go.Lib
set_option maxHeartbeats 6400000 in
set_option maxRecDepth 100000 in
def Tryz.aie (u:Nat) (DI:u<18446744073709551616) (w:World)
  (DH:Lib.TabIs Tryz.prog w "internal/strconv.uint64pow10" .u64 Lib.pow10Tab):
  Calls Tryz.prog 244 #[.int .u64 u,.int .i64 10] w fun e w'=>e= .returned (.string ⟨(Lib.decDigits u).toArray⟩)/\∃k os,w'=grow (w.drewN k) os:=by
 by_cases hs:u<100
 ·go_enter Tryz.func244,Tryz.ntmps244
  go_wp2_with (go_at_call 266;refine (Tryz.internal_strconv_small u hs _).mono ?_;rintro e w' ⟨rfl,rfl⟩)
  go_ret
  exact ⟨rfl,0,#[],by simp [World.drewN_zero]⟩
 ·have rB:1<=u:=by omega
  have aBa:Lib.nDigits u<=20:=by have:=Lib.numDigits_eq u rB DI;split at this<;>omega
  have hal:Tryz.prog.arrayLen 288=24:=by simp [Program.arrayLen,Tryz.underlying288]
  have nP:∀W,(Instr.sliceAt 288 (.pointer (some ⟨w.heap.size,0,none⟩)) none (some (.int .i64 (Lib.nDigits u:Int))) none).run Tryz.prog W= .ok (.slice (some ⟨w.heap.size,0,none⟩) (Lib.nDigits u) 24) W:=fun W=>by
   rw [run_sliceAt_array_h W 288 ⟨w.heap.size,0,none⟩ (by simp [Program.arrayLen,Program.elem,Tryz.underlying288]) .i64 (Lib.nDigits u:Int) (by omega) (by rw [hal];omega)]
   go_simp
  have WB:=Lib.holds_zero0 w 288 (Lib.nDigits u) (by omega);have afp:=Tryz.internal_strconv_formatBase10 w.heap.size 0 24 u (Array.replicate (Lib.nDigits u) 0) (w.alloc (.cells Lib.zeros24 288)) WB (by rw [vA];exact Lib.lt_pow_nDigits u) DI (by rw [vA];omega)
  rw [vA] at afp;have HH0:=Lib.hid WB;have iu:(100:Int)<=(u:Int):=by omega
  clear WB hal
  go_enter Tryz.func244,Tryz.ntmps244
  go_wp2_with (first
   | (go_at_call 267;refine (Tryz.internal_strconv_numDigits u rB DI _ (Lib.tabIs_alloc DH _)).mono ?_;rintro e w' ⟨rfl,rfl⟩))
  go_at_call 268
  refine afp.mono ?_;rintro e w' ⟨rfl,k,v',dk,rfl,hF⟩;have hcv:(convert 243 9 (.slice (some ⟨w.heap.size,0,none⟩) (Lib.nDigits u) 24)).run Tryz.prog ((putRow (fun (b:UInt8)=>Value.int .u8 (b.toNat:Int)) (w.alloc (.cells Lib.zeros24 288)) w.heap.size 0 dk).drewN k)= .ok (.string ⟨(Lib.decDigits u).toArray⟩) ((putRow (fun (b:UInt8)=>Value.int .u8 (b.toNat:Int)) (w.alloc (.cells Lib.zeros24 288)) w.heap.size 0 dk).drewN k):=by
   have h:=run_convert_bytes_back (P:=Tryz.prog) ((putRow (fun (b:UInt8)=>Value.int .u8 (b.toNat:Int)) (w.alloc (.cells Lib.zeros24 288)) w.heap.size 0 dk).drewN k) 243 9 5 ⟨w.heap.size,0,none⟩ 24 (Lib.decDigits u) Tryz.underlying243 Tryz.underlying5 Tryz.underlying9 (fun j hj=>by
    rw [Lib.row_is_numeral hF j hj,Lib.add_plain,World.cell?_drewN]
    exact cell?_putRow (fun (b:UInt8)=>Value.int .u8 (b.toNat:Int)) _ w.heap.size 0 _ dk HH0.out (by rw [hF.size,vA]) j (by rw [hF.size];rw [Lib.decDigits_length] at hj;exact hj))
   rw [Lib.decDigits_length] at h;exact h
  go_wp2
  go_ret
  obtain ⟨os,eo⟩:=Lib.fin_at w (.cells Lib.zeros24 288) dk k 0;exact ⟨rfl,k,os,eo⟩
def Tryz.aif (u:Nat) (DI:u<18446744073709551616) (w:World)
  (DH:Lib.TabIs Tryz.prog w "internal/strconv.uint64pow10" .u64 Lib.pow10Tab):
  Calls Tryz.prog 204 #[.int .u64 u,.int .i64 10] w fun e w'=>e= .returned (.string ⟨(Lib.decDigits u).toArray⟩)/\∃k os,w'=grow (w.drewN k) os:=by
 go_enter Tryz.func204,Tryz.ntmps204
 go_wp2_with (go_at_call 244;refine (Tryz.aie u DI _ DH).mono ?_;rintro e w' ⟨rfl,k,os,rfl⟩)
 go_ret
 exact ⟨rfl,k,os,rfl⟩
end Go.Proofs
end
section
namespace VE
abbrev Rq (d:Nat) (o:Op):bh:=⟨some d,none,o⟩
abbrev Rt (d g:Nat) (o:Op):bh:=⟨some d,some (g,true),o⟩
abbrev Rf (d g:Nat) (o:Op):bh:=⟨some d,some (g,false),o⟩
abbrev qm (d s:Nat):bh:=⟨some d,none,.bV (.t s)⟩
abbrev qg (d f:Nat):bh:=⟨some d,none,.call .pure (.c (.fn (.f f) [] [])) []⟩
abbrev ax (d f a:Nat):bh:=⟨some d,none,.call .pure (.c (.fn (.f f) [] [])) [.t a]⟩
abbrev aO (d f a b:Nat):bh:=⟨some d,none,.call .pure (.c (.fn (.f f) [] [])) [.t a,.t b]⟩
abbrev mc (d f a b c:Nat):bh:=⟨some d,none,.call .pure (.c (.fn (.f f) [] [])) [.t a,.t b,.t c]⟩
abbrev Eh (d f a b c e:Nat):bh:=⟨some d,none,.call .pure (.c (.fn (.f f) [] [])) [.t a,.t b,.t c,.t e]⟩
abbrev ql (d n s:Nat):bh:=⟨some d,none,.ld n false (.t s)⟩
abbrev qL (d n s:Nat):bh:=⟨some d,none,.ld n true (.t s)⟩
abbrev qk (d:Nat) (k:Int):bh:=⟨some d,none,.bV (.c (.int .i64 k))⟩
abbrev qf (d:Nat):bh:=⟨some d,none,.bV (.c (.bool false))⟩
abbrev qz (d:Nat):bh:=⟨some d,none,.bV (.c .ab)⟩
abbrev qi (d n s i:Nat):bh:=⟨some d,none,.aZ n (.t s) (.t i)⟩
abbrev qo (d n s:Nat):bh:=⟨some d,none,.off n (.t s)⟩
abbrev qn (d n s:Nat):bh:=⟨some d,none,.len n (.t s)⟩
abbrev qe (d n s:Nat):bh:=⟨some d,none,.ext n (.t s)⟩
abbrev qb (d n s:Nat):bh:=⟨some d,none,.box n (.t s)⟩
abbrev qs (n a b:Nat):bh:=⟨none,none,.st n (.t a) (.t b)⟩
abbrev qa (d a:Nat) (k:Int):bh:=⟨some d,none,.bin .add (.t a) (.c (.int .i64 k))⟩
abbrev qN (d a:Nat) (k:Int):bh:=⟨some d,none,.bin .neq (.t a) (.c (.int .i64 k))⟩
abbrev qE (d a:Nat) (k:Int):bh:=⟨some d,none,.bin .eql (.t a) (.c (.int .i64 k))⟩
abbrev qA (d a b:Nat):bh:=⟨some d,none,.bin .add (.t a) (.t b)⟩
abbrev qT (d a b:Nat):bh:=⟨some d,none,.bin .lss (.t a) (.t b)⟩
abbrev qp (d c b:Nat):bh:=⟨some d,none,.pick (.t c) (.c (.bool true)) (.t b)⟩
abbrev qq (d c b:Nat):bh:=⟨some d,none,.pick (.t c) (.t b) (.c (.bool false))⟩
abbrev X.k (n:Int):X:=.c (.int .i64 n)
abbrev X.u (n:Int):X:=.c (.int .u64 n)
abbrev X.F (n:Nat):X:=.c (.fn (.f n) [] [])
abbrev X.s (l:List Nat):X:=.c (.str l)
abbrev AV.i (n:Int):AV:=.int .i64 n
abbrev Op.q (f:Nat) (l:List X):Op:=.call .pure (.c (.fn (.f f) [] [])) l
abbrev Op.y (o:Go.BinOp) (a:Nat) (n:Int):Op:=.bin o (.t a) (.c (.int .i64 n))
abbrev Op.z (o:Go.BinOp) (a b:Nat):Op:=.bin o (.t a) (.t b)
abbrev Op.m (a:Nat):Op:=.bV (.t a)
abbrev VC.g (o:List bh) (b:VC):VC:=.seq (.aM o) b
abbrev VC.q (a b:VC):VC:=.seq a b
abbrev VC.e (o:List bh):VC:=.seq (.aM o) .ret
abbrev VC.i (t:Nat) (a:VC):VC:=.cond (.t t) a .skip
abbrev VC.h (o:List bh) (t:Nat) (a b:VC):VC:=.seq (.seq (.aM o) (.cond (.t t) a .skip)) b
end VE
end
