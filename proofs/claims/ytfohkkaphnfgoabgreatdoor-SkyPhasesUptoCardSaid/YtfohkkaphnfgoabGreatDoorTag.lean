import Derived.Lib.AppendIntMem
import Derived.OwnWalk
import Derived.WalkKit
import Derived.Test.YtfohkkaphnfgoabGreatDoorTaf
import Derived.Test.YtfohkkaphnfgoabGreatDoorTaa
set_option linter.all false
set_option maxRecDepth 100000
open Array renaming size_replicate→vv
section
namespace Go.Proofs
open Go.Shelf
open Go.RowKit Go.Sort Go.Lib
set_option maxHeartbeats 6400000 in
set_option maxRecDepth 100000 in
def Tryz.af0 (u:Nat) (Cg:u<18446744073709551616) (w:World)
  (Cf:Lib.TabIs Tryz.prog w "internal/strconv.uint64pow10" .u64 Lib.pow10Tab):
  Calls Tryz.prog 245 #[.int .u64 u,.int .i64 10] w fun e w'=>e= .returned (.string ⟨(Lib.decDigits u).toArray⟩)/\∃k os,w'=grow (w.drewN k) os:=by
 by_cases hs:u<100
 ·go_enter Tryz.func245,Tryz.ntmps245
  go_wp2_with (go_at_call 270;refine (Tryz.internal_strconv_small u hs _).mono ?_;rintro e w' ⟨rfl,rfl⟩)
  go_ret
  exact ⟨rfl,0,#[],by simp [World.drewN_zero]⟩
 ·have pv:1<=u:=by omega
  have ayt:Lib.nDigits u<=20:=by have:=Lib.numDigits_eq u pv Cg;split at this<;>omega
  have hal:Tryz.prog.arrayLen 292=24:=by simp [Program.arrayLen,Tryz.underlying292]
  have NW:∀W,(Instr.sliceAt 292 (.pointer (some ⟨w.heap.size,0,none⟩)) none (some (.int .i64 (Lib.nDigits u:Int))) none).run Tryz.prog W= .ok (.slice (some ⟨w.heap.size,0,none⟩) (Lib.nDigits u) 24) W:=fun W=>by
   rw [run_sliceAt_array_h W 292 ⟨w.heap.size,0,none⟩ (by simp [Program.arrayLen,Program.elem,Tryz.underlying292]) .i64 (Lib.nDigits u:Int) (by omega) (by rw [hal];omega)]
   go_simp
  have Un:=Lib.holds_zero0 w 292 (Lib.nDigits u) (by omega);have adl:=Tryz.internal_strconv_formatBase10 w.heap.size 0 24 u (Array.replicate (Lib.nDigits u) 0) (w.alloc (.cells Lib.zeros24 292)) Un (by rw [vv];exact Lib.lt_pow_nDigits u) Cg (by rw [vv];omega)
  rw [vv] at adl;have HH0:=Lib.hid Un;have iu:(100:Int)<=(u:Int):=by omega
  clear Un hal
  go_enter Tryz.func245,Tryz.ntmps245
  go_wp2_with (first
   | (go_at_call 271;refine (Tryz.internal_strconv_numDigits u pv Cg _ (Lib.tabIs_alloc Cf _)).mono ?_;rintro e w' ⟨rfl,rfl⟩))
  go_at_call 272
  refine adl.mono ?_;rintro e w' ⟨rfl,k,v',dk,rfl,hF⟩;have hcv:(convert 244 9 (.slice (some ⟨w.heap.size,0,none⟩) (Lib.nDigits u) 24)).run Tryz.prog ((putRow (fun (b:UInt8)=>Value.int .u8 (b.toNat:Int)) (w.alloc (.cells Lib.zeros24 292)) w.heap.size 0 dk).drewN k)= .ok (.string ⟨(Lib.decDigits u).toArray⟩) ((putRow (fun (b:UInt8)=>Value.int .u8 (b.toNat:Int)) (w.alloc (.cells Lib.zeros24 292)) w.heap.size 0 dk).drewN k):=by
   have h:=run_convert_bytes_back (P:=Tryz.prog) ((putRow (fun (b:UInt8)=>Value.int .u8 (b.toNat:Int)) (w.alloc (.cells Lib.zeros24 292)) w.heap.size 0 dk).drewN k) 244 9 5 ⟨w.heap.size,0,none⟩ 24 (Lib.decDigits u) Tryz.underlying244 Tryz.underlying5 Tryz.underlying9 (fun j hj=>by
    rw [Lib.row_is_numeral hF j hj,Lib.add_plain,World.cell?_drewN]
    exact cell?_putRow (fun (b:UInt8)=>Value.int .u8 (b.toNat:Int)) _ w.heap.size 0 _ dk HH0.out (by rw [hF.size,vv]) j (by rw [hF.size];rw [Lib.decDigits_length] at hj;exact hj))
   rw [Lib.decDigits_length] at h;exact h
  go_wp2
  go_ret
  obtain ⟨os,eo⟩:=Lib.fin_at w (.cells Lib.zeros24 292) dk k 0;exact ⟨rfl,k,os,eo⟩
def Tryz.af1 (u:Nat) (Cg:u<18446744073709551616) (w:World)
  (Cf:Lib.TabIs Tryz.prog w "internal/strconv.uint64pow10" .u64 Lib.pow10Tab):
  Calls Tryz.prog 202 #[.int .u64 u,.int .i64 10] w fun e w'=>e= .returned (.string ⟨(Lib.decDigits u).toArray⟩)/\∃k os,w'=grow (w.drewN k) os:=by
 go_enter Tryz.func202,Tryz.ntmps202
 go_wp2_with (go_at_call 245;refine (Tryz.af0 u Cg _ Cf).mono ?_;rintro e w' ⟨rfl,k,os,rfl⟩)
 go_ret
 exact ⟨rfl,k,os,rfl⟩
end Go.Proofs
end
section
namespace VE
abbrev Rq (d:Nat) (o:Op):bg:=⟨some d,none,o⟩
abbrev Rt (d g:Nat) (o:Op):bg:=⟨some d,some (g,true),o⟩
abbrev Rf (d g:Nat) (o:Op):bg:=⟨some d,some (g,false),o⟩
abbrev qm (d s:Nat):bg:=⟨some d,none,.bK (.t s)⟩
abbrev oz (d f:Nat):bg:=⟨some d,none,.call .pure (.c (.fn (.f f) [] [])) []⟩
abbrev av (d f a:Nat):bg:=⟨some d,none,.call .pure (.c (.fn (.f f) [] [])) [.t a]⟩
abbrev aM (d f a b:Nat):bg:=⟨some d,none,.call .pure (.c (.fn (.f f) [] [])) [.t a,.t b]⟩
abbrev lU (d f a b c:Nat):bg:=⟨some d,none,.call .pure (.c (.fn (.f f) [] [])) [.t a,.t b,.t c]⟩
abbrev oA (d f a b c e:Nat):bg:=⟨some d,none,.call .pure (.c (.fn (.f f) [] [])) [.t a,.t b,.t c,.t e]⟩
abbrev ql (d n s:Nat):bg:=⟨some d,none,.ld n false (.t s)⟩
abbrev qL (d n s:Nat):bg:=⟨some d,none,.ld n true (.t s)⟩
abbrev qk (d:Nat) (k:Int):bg:=⟨some d,none,.bK (.c (.int .i64 k))⟩
abbrev qf (d:Nat):bg:=⟨some d,none,.bK (.c (.bool false))⟩
abbrev qz (d:Nat):bg:=⟨some d,none,.bK (.c .ab)⟩
abbrev qi (d n s i:Nat):bg:=⟨some d,none,.a8 n (.t s) (.t i)⟩
abbrev qo (d n s:Nat):bg:=⟨some d,none,.off n (.t s)⟩
abbrev qn (d n s:Nat):bg:=⟨some d,none,.len n (.t s)⟩
abbrev qe (d n s:Nat):bg:=⟨some d,none,.ext n (.t s)⟩
abbrev qb (d n s:Nat):bg:=⟨some d,none,.box n (.t s)⟩
abbrev qs (n a b:Nat):bg:=⟨none,none,.st n (.t a) (.t b)⟩
abbrev qa (d a:Nat) (k:Int):bg:=⟨some d,none,.bin .add (.t a) (.c (.int .i64 k))⟩
abbrev qN (d a:Nat) (k:Int):bg:=⟨some d,none,.bin .neq (.t a) (.c (.int .i64 k))⟩
abbrev qE (d a:Nat) (k:Int):bg:=⟨some d,none,.bin .eql (.t a) (.c (.int .i64 k))⟩
abbrev qA (d a b:Nat):bg:=⟨some d,none,.bin .add (.t a) (.t b)⟩
abbrev qT (d a b:Nat):bg:=⟨some d,none,.bin .lss (.t a) (.t b)⟩
abbrev qp (d c b:Nat):bg:=⟨some d,none,.pick (.t c) (.c (.bool true)) (.t b)⟩
abbrev qq (d c b:Nat):bg:=⟨some d,none,.pick (.t c) (.t b) (.c (.bool false))⟩
abbrev X.k (n:Int):X:=.c (.int .i64 n)
abbrev X.u (n:Int):X:=.c (.int .u64 n)
abbrev X.F (n:Nat):X:=.c (.fn (.f n) [] [])
abbrev X.s (l:List Nat):X:=.c (.str l)
abbrev AV.i (n:Int):AV:=.int .i64 n
abbrev Op.q (f:Nat) (l:List X):Op:=.call .pure (.c (.fn (.f f) [] [])) l
abbrev Op.y (o:Go.BinOp) (a:Nat) (n:Int):Op:=.bin o (.t a) (.c (.int .i64 n))
abbrev Op.z (o:Go.BinOp) (a b:Nat):Op:=.bin o (.t a) (.t b)
abbrev Op.m (a:Nat):Op:=.bK (.t a)
abbrev VC.g (o:List bg) (b:VC):VC:=.seq (.aP o) b
abbrev VC.q (a b:VC):VC:=.seq a b
abbrev VC.e (o:List bg):VC:=.seq (.aP o) .ret
abbrev VC.i (t:Nat) (a:VC):VC:=.cond (.t t) a .skip
abbrev VC.h (o:List bg) (t:Nat) (a b:VC):VC:=.seq (.seq (.aP o) (.cond (.t t) a .skip)) b
end VE
end
