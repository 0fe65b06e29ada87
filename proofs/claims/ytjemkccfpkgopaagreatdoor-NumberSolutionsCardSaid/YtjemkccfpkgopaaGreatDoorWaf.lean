import Derived.Lib.AppendIntMem
import Derived.OwnWalk
import Derived.WalkKit
import Derived.Test.YtjemkccfpkgopaaGreatDoorWae
import Derived.Test.YtjemkccfpkgopaaGreatDoorWaa
set_option linter.all false
set_option maxRecDepth 100000
open Array renaming size_replicate→vT
section
namespace Go.Proofs
open Go.Shelf
open Go.RowKit Go.Sort Go.Lib
set_option maxHeartbeats 6400000 in
set_option maxRecDepth 100000 in
def Tryz.anI (u:Nat) (Dk:u<18446744073709551616) (w:World)
  (Dj:Lib.TabIs Tryz.prog w "internal/strconv.uint64pow10" .u64 Lib.pow10Tab):
  Calls Tryz.prog 228 #[.int .u64 u,.int .i64 10] w fun e w'=>e= .returned (.string ⟨(Lib.decDigits u).toArray⟩)/\∃k os,w'=grow (w.drewN k) os:=by
 by_cases hs:u<100
 ·go_enter Tryz.func228,Tryz.ntmps228
  go_wp2_with (go_at_call 247;refine (Tryz.internal_strconv_small u hs _).mono ?_;rintro e w' ⟨rfl,rfl⟩)
  go_ret
  exact ⟨rfl,0,#[],by simp [World.drewN_zero]⟩
 ·have re:1<=u:=by omega
  have aIO:Lib.nDigits u<=20:=by have:=Lib.numDigits_eq u re Dk;split at this<;>omega
  have hal:Tryz.prog.arrayLen 258=24:=by simp [Program.arrayLen,Tryz.underlying258]
  have Ao:∀W,(Instr.sliceAt 258 (.pointer (some ⟨w.heap.size,0,none⟩)) none (some (.int .i64 (Lib.nDigits u:Int))) none).run Tryz.prog W= .ok (.slice (some ⟨w.heap.size,0,none⟩) (Lib.nDigits u) 24) W:=fun W=>by
   rw [run_sliceAt_array_h W 258 ⟨w.heap.size,0,none⟩ (by simp [Program.arrayLen,Program.elem,Tryz.underlying258]) .i64 (Lib.nDigits u:Int) (by omega) (by rw [hal];omega)]
   go_simp
  have ZM:=Lib.holds_zero0 w 258 (Lib.nDigits u) (by omega);have aj0:=Tryz.internal_strconv_formatBase10 w.heap.size 0 24 u (Array.replicate (Lib.nDigits u) 0) (w.alloc (.cells Lib.zeros24 258)) ZM (by rw [vT];exact Lib.lt_pow_nDigits u) Dk (by rw [vT];omega)
  rw [vT] at aj0;have HH0:=Lib.hid ZM;have iu:(100:Int)<=(u:Int):=by omega
  clear ZM hal
  go_enter Tryz.func228,Tryz.ntmps228
  go_wp2_with (first
   | (go_at_call 248;refine (Tryz.internal_strconv_numDigits u re Dk _ (Lib.tabIs_alloc Dj _)).mono ?_;rintro e w' ⟨rfl,rfl⟩))
  go_at_call 249
  refine aj0.mono ?_;rintro e w' ⟨rfl,k,v',dk,rfl,hF⟩;have hcv:(convert 224 9 (.slice (some ⟨w.heap.size,0,none⟩) (Lib.nDigits u) 24)).run Tryz.prog ((putRow (fun (b:UInt8)=>Value.int .u8 (b.toNat:Int)) (w.alloc (.cells Lib.zeros24 258)) w.heap.size 0 dk).drewN k)= .ok (.string ⟨(Lib.decDigits u).toArray⟩) ((putRow (fun (b:UInt8)=>Value.int .u8 (b.toNat:Int)) (w.alloc (.cells Lib.zeros24 258)) w.heap.size 0 dk).drewN k):=by
   have h:=run_convert_bytes_back (P:=Tryz.prog) ((putRow (fun (b:UInt8)=>Value.int .u8 (b.toNat:Int)) (w.alloc (.cells Lib.zeros24 258)) w.heap.size 0 dk).drewN k) 224 9 5 ⟨w.heap.size,0,none⟩ 24 (Lib.decDigits u) Tryz.underlying224 Tryz.underlying5 Tryz.underlying9 (fun j hj=>by
    rw [Lib.row_is_numeral hF j hj,Lib.add_plain,World.cell?_drewN]
    exact cell?_putRow (fun (b:UInt8)=>Value.int .u8 (b.toNat:Int)) _ w.heap.size 0 _ dk HH0.out (by rw [hF.size,vT]) j (by rw [hF.size];rw [Lib.decDigits_length] at hj;exact hj))
   rw [Lib.decDigits_length] at h;exact h
  go_wp2
  go_ret
  obtain ⟨os,eo⟩:=Lib.fin_at w (.cells Lib.zeros24 258) dk k 0;exact ⟨rfl,k,os,eo⟩
def Tryz.anJ (u:Nat) (Dk:u<18446744073709551616) (w:World)
  (Dj:Lib.TabIs Tryz.prog w "internal/strconv.uint64pow10" .u64 Lib.pow10Tab):
  Calls Tryz.prog 203 #[.int .u64 u,.int .i64 10] w fun e w'=>e= .returned (.string ⟨(Lib.decDigits u).toArray⟩)/\∃k os,w'=grow (w.drewN k) os:=by
 go_enter Tryz.func203,Tryz.ntmps203
 go_wp2_with (go_at_call 228;refine (Tryz.anI u Dk _ Dj).mono ?_;rintro e w' ⟨rfl,k,os,rfl⟩)
 go_ret
 exact ⟨rfl,k,os,rfl⟩
end Go.Proofs
end
section
namespace VE
abbrev Rq (d:Nat) (o:Op):a8:=⟨some d,none,o⟩
abbrev Rt (d g:Nat) (o:Op):a8:=⟨some d,some (g,true),o⟩
abbrev Rf (d g:Nat) (o:Op):a8:=⟨some d,some (g,false),o⟩
abbrev qm (d s:Nat):a8:=⟨some d,none,.cz (.t s)⟩
abbrev qc0 (d f:Nat):a8:=⟨some d,none,.call .pure (.c (.fn (.f f) [] [])) []⟩
abbrev aT (d f a:Nat):a8:=⟨some d,none,.call .pure (.c (.fn (.f f) [] [])) [.t a]⟩
abbrev bj (d f a b:Nat):a8:=⟨some d,none,.call .pure (.c (.fn (.f f) [] [])) [.t a,.t b]⟩
abbrev DS (d f a b c:Nat):a8:=⟨some d,none,.call .pure (.c (.fn (.f f) [] [])) [.t a,.t b,.t c]⟩
abbrev qc4 (d f a b c e:Nat):a8:=⟨some d,none,.call .pure (.c (.fn (.f f) [] [])) [.t a,.t b,.t c,.t e]⟩
abbrev ql (d n s:Nat):a8:=⟨some d,none,.ld n false (.t s)⟩
abbrev qL (d n s:Nat):a8:=⟨some d,none,.ld n true (.t s)⟩
abbrev qk (d:Nat) (k:Int):a8:=⟨some d,none,.cz (.c (.int .i64 k))⟩
abbrev qf (d:Nat):a8:=⟨some d,none,.cz (.c (.bool false))⟩
abbrev qz (d:Nat):a8:=⟨some d,none,.cz (.c .aa)⟩
abbrev qi (d n s i:Nat):a8:=⟨some d,none,.aY n (.t s) (.t i)⟩
abbrev qo (d n s:Nat):a8:=⟨some d,none,.off n (.t s)⟩
abbrev qn (d n s:Nat):a8:=⟨some d,none,.len n (.t s)⟩
abbrev qe (d n s:Nat):a8:=⟨some d,none,.ext n (.t s)⟩
abbrev qb (d n s:Nat):a8:=⟨some d,none,.box n (.t s)⟩
abbrev qs (n a b:Nat):a8:=⟨none,none,.st n (.t a) (.t b)⟩
abbrev qa (d a:Nat) (k:Int):a8:=⟨some d,none,.bin .add (.t a) (.c (.int .i64 k))⟩
abbrev qN (d a:Nat) (k:Int):a8:=⟨some d,none,.bin .neq (.t a) (.c (.int .i64 k))⟩
abbrev qE (d a:Nat) (k:Int):a8:=⟨some d,none,.bin .eql (.t a) (.c (.int .i64 k))⟩
abbrev qA (d a b:Nat):a8:=⟨some d,none,.bin .add (.t a) (.t b)⟩
abbrev qT (d a b:Nat):a8:=⟨some d,none,.bin .lss (.t a) (.t b)⟩
abbrev qp (d c b:Nat):a8:=⟨some d,none,.pick (.t c) (.c (.bool true)) (.t b)⟩
abbrev qq (d c b:Nat):a8:=⟨some d,none,.pick (.t c) (.t b) (.c (.bool false))⟩
abbrev X.k (n:Int):X:=.c (.int .i64 n)
abbrev X.u (n:Int):X:=.c (.int .u64 n)
abbrev X.F (n:Nat):X:=.c (.fn (.f n) [] [])
abbrev X.s (l:List Nat):X:=.c (.str l)
abbrev AV.i (n:Int):AV:=.int .i64 n
abbrev Op.q (f:Nat) (l:List X):Op:=.call .pure (.c (.fn (.f f) [] [])) l
abbrev Op.y (o:Go.BinOp) (a:Nat) (n:Int):Op:=.bin o (.t a) (.c (.int .i64 n))
abbrev Op.z (o:Go.BinOp) (a b:Nat):Op:=.bin o (.t a) (.t b)
abbrev Op.m (a:Nat):Op:=.cz (.t a)
abbrev VC.g (o:List a8) (b:VC):VC:=.seq (.aJ o) b
abbrev VC.q (a b:VC):VC:=.seq a b
abbrev VC.e (o:List a8):VC:=.seq (.aJ o) .ret
abbrev VC.i (t:Nat) (a:VC):VC:=.cond (.t t) a .skip
abbrev VC.h (o:List a8) (t:Nat) (a b:VC):VC:=.seq (.seq (.aJ o) (.cond (.t t) a .skip)) b
end VE
end
