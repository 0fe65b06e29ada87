import Derived.Shelf.Small.Bits
import Derived.Shelf.Small.Wraps
import Derived.Shelf.Strconv.Atoi
import Derived.Shelf.LaysM
import Derived.Shelf.Strconv.Itoa3
import Derived.Shelf.Strings.Cut
import Derived.Shelf.Strings.Prefix
import Derived.Shelf.Bits.Mul64
import Derived.Shelf.Strings.Repeat
import Derived.Shelf.Strings.SlTrimAscii
import Derived.Shelf.Spec.BitsCarry
import Derived.Shelf.Strings.Builder1
import Derived.Test.YtnilidoboioodaaGreatDoorProg
set_option linter.all false
set_option maxRecDepth 100000
open Go renaming Calls→xE,World→yh
open Go.Proofs.Lays renaming n101→yaO,n103→yaH,n105→yaQ,n129→yaJ,n134→yaG,n145→yaM,n160→yaF,n166→yaR,n169→yaE,n172→yaI,n264→yaP,n283→yaK,n285→yaL,n99→yaN
open Go.Proofs.Lays7 renaming n25→yav,n26→yaw
open Go.Proofs.LaysM renaming n145→yau,n171→yat,n284→yas
open Go.Shelf renaming Ren→xu
namespace Go.Proofs
open Go.Shelf
def Tryz.QP:xu:=⟨fun | 169=>247 | n=>n,fun | 70=>307 | 9=>9 | 0=>0 | 72=>310 | 37=>308 | 127=>343 | 3=>3 | 5=>5 | n=>n,fun | n=>n⟩
def Tryz.afO:yaE Tryz.prog Tryz.QP:=by
 repeat' first | kernel_rfl | (intro w;kernel_rfl) | decide | constructor
def Tryz.ZK:Builder.Extra Tryz.prog Tryz.QP:=by
 repeat' first | kernel_rfl | (intro w;kernel_rfl) | decide | constructor
open Go.RowKit in
def Tryz.Builder_String_any (B b:Nat) (l:List UInt8) (w:yh) (h:Lib.IsBuilder 310 5 B b (Lib.byteCells l) w) (Pr:B<=w.heap.size):
  xE Tryz.prog 247 #[.pointer (some ⟨b,0,none⟩)] w fun e w'=>e= .returned (.string ⟨l.toArray⟩)/\Below B w w':=Any.Builder_String_any Tryz.afO Tryz.ZK B b l w h Pr
def Tryz.aal:xu:=⟨fun | 160=>267 | 232=>304 | 231=>303 | 227=>305 | 234=>307 | 233=>306 | 236=>309 | 235=>308 | 228=>331 | 271=>334 | 151=>333 | 197=>332 | 120=>347 | 152=>346 | 260=>345 | 137=>352 | 119=>353 | 224=>312 | 225=>311 | 217=>310 | 266=>335 | n=>n,fun | 9=>9 | 4=>4 | 3=>3 | 5=>5 | 117=>356 | 116=>355 | 0=>0 | 124=>359 | 21=>21 | 105=>383 | 46=>329 | 119=>404 | 139=>407 | 138=>406 | n=>n,fun | 3=>10 | 4=>11 | n=>n⟩
def Tryz.afP:yaF Tryz.prog Tryz.aal:=by
 repeat' first | kernel_rfl | (intro w;kernel_rfl) | decide | constructor
def Tryz.aam:xu:=⟨fun | 134=>283 | 129=>293 | n=>n,fun | 53=>293 | 3=>3 | 4=>4 | 46=>329 | 5=>5 | 9=>9 | n=>n,fun | n=>n⟩
def Tryz.afQ:yaG Tryz.prog Tryz.aam:=by
 repeat' first | kernel_rfl | (intro w;kernel_rfl) | decide | constructor
def Tryz.bits_LeadingZeros64 (x:Int) (w:yh) (h0:0<=x) (h1:x<=18446744073709551615):
  xE Tryz.prog 283 #[.int .u64 x] w fun e w'=>e= .returned (.int .i64 (64-(Lib.bitLen x.toNat:Int)))/\w'=w:=Any.bits_LeadingZeros64 Tryz.afQ x w h0 h1
def Tryz.aan:xu:=⟨fun | 103=>207 | 210=>266 | 206=>270 | n=>n,fun | 9=>9 | 4=>4 | 24=>273 | 3=>3 | n=>n,fun | n=>n⟩
def Tryz.afR:yaH Tryz.prog Tryz.aan:=by
 repeat' first | kernel_rfl | (intro w;kernel_rfl) | decide | constructor
open Go.RowKit in
def Tryz.strings_CutPrefix (s p:ByteArray) (w:yh):
  xE Tryz.prog 207 #[.string s,.string p] w fun e w'=>e= .returned (.tuple #[.string ⟨(Lib.trimPrefix s.data.toList p.data.toList).toArray⟩,.bool (Lib.hasPrefix s.data.toList p.data.toList)])/\w'=w:=Any.strings_CutPrefix Tryz.afR s p w
def Tryz.aao:xu:=⟨fun | 172=>215 | 244=>272 | 245=>273 | 247=>314 | 279=>315 | 280=>316 | 281=>317 | 282=>318 | 287=>337 | 316=>338 | 171=>242 | 205=>339 | 321=>348 | 322=>349 | 243=>281 | 246=>319 | 283=>320 | 284=>321 | 285=>322 | 286=>323 | 129=>293 | 317=>340 | 318=>341 | 319=>342 | 320=>343 | 337=>350 | 338=>351 | n=>n,fun | 9=>9 | 3=>3 | 75=>279 | 76=>280 | 4=>4 | 5=>5 | 167=>362 | 37=>308 | 0=>0 | 85=>363 | 2=>2 | 168=>365 | 53=>293 | 175=>387 | 46=>329 | 210=>391 | 127=>343 | 145=>402 | 143=>400 | 21=>21 | 171=>369 | 173=>371 | 212=>347 | 51=>373 | 20=>20 | 213=>394 | 232=>409 | 233=>410 | 80=>249 | n=>n,fun | 15=>7 | 16=>8 | 17=>9 | 18=>12 | 19=>13 | n=>n⟩
def Tryz.afS:yaI Tryz.prog Tryz.aao:=by
 repeat' first | kernel_rfl | (intro w;kernel_rfl) | decide | constructor
open Go.RowKit in
def Tryz.strconv_Atoi (s:ByteArray) (n:Int) (hl:s.size<=18) (h:Lib.atoi s.data.toList=some n) (w:yh):
  xE Tryz.prog 215 #[.string s] w fun e w'=>e= .returned (.tuple #[.int .i64 n,.nilIface])/\∃t,w'=Lib.bytesWorld w 5 t:=Any.strconv_Atoi Tryz.afS s n hl h w
def Tryz.aap:xu:=⟨fun | 129=>293 | n=>n,fun | 53=>293 | 3=>3 | 4=>4 | 46=>329 | 5=>5 | 9=>9 | n=>n,fun | n=>n⟩
def Tryz.afT:yaJ Tryz.prog Tryz.aap:=by
 repeat' first | kernel_rfl | (intro w;kernel_rfl) | decide | constructor
def Tryz.bits_Len64 (x:Int) (w:yh) (h0:0<=x) (h1:x<=18446744073709551615):
  xE Tryz.prog 293 #[.int .u64 x] w fun e w'=>e= .returned (.int .i64 (Lib.bitLen x.toNat))/\w'=w:=Any.bits_Len64 Tryz.afT x w h0 h1
def Tryz.aaq:xu:=⟨fun | 283=>320 | n=>n,fun | 3=>3 | 9=>9 | 4=>4 | n=>n,fun | n=>n⟩
def Tryz.afU:yaK Tryz.prog Tryz.aaq:=by
 repeat' first | kernel_rfl | (intro w;kernel_rfl) | decide | constructor
open Go.Lib in
def Tryz.internal_strconv_small (i:Nat) (h:i<100) (w:yh):
  xE Tryz.prog 320 #[.int .i64 i] w fun e w'=>e= .returned (.string ⟨(Lib.decDigits i).toArray⟩)/\w'=w:=Any.internal_strconv_small Tryz.afU i h w
def Tryz.Z3:xu:=⟨fun | 284=>321 | 129=>293 | 317=>340 | 318=>341 | n=>n,fun | 53=>293 | 3=>3 | 212=>347 | 0=>0 | 4=>4 | 46=>329 | 5=>5 | 9=>9 | n=>n,fun | 17=>9 | n=>n⟩
def Tryz.ad5:yas Tryz.prog Tryz.Z3:=by
 repeat' first | kernel_rfl | (intro w;kernel_rfl) | decide | constructor
open Go.Lib in
def Tryz.internal_strconv_numDigits (u:Nat) (h1:1<=u) (h2:u<18446744073709551616) (w:yh) (AE:Lib.TabIs Tryz.prog w "internal/strconv.uint64pow10" .u64 Lib.pow10Tab):
  xE Tryz.prog 321 #[.int .u64 u] w fun e w'=>e= .returned (.int .i64 (Lib.nDigits u))/\w'=w:=Any.internal_strconv_numDigits Tryz.ad5 u h1 h2 w AE
def Tryz.aar:xu:=⟨fun | 285=>322 | n=>n,fun | 37=>308 | 53=>293 | 3=>3 | 4=>4 | 51=>373 | 9=>9 | 5=>5 | 0=>0 | n=>n,fun | n=>n⟩
def Tryz.afV:yaL Tryz.prog Tryz.aar:=by
 repeat' first | kernel_rfl | (intro w;kernel_rfl) | decide | constructor
open Go.RowKit Go.Sort Go.Lib in
def Tryz.internal_strconv_formatBase10 (cT off cap:Nat) (u:Nat) (d:Array UInt8) (w:yh) (hH:Holds (fun (b:UInt8)=>Value.int .u8 (b.toNat:Int)) w cT off d) (hu:u<10^d.size) (AF:u<18446744073709551616) (dM:d.size<4611686018427387904):
  xE Tryz.prog 322 #[.slice (some ⟨cT,off,none⟩) d.size cap,.int .u64 u] w fun e w'=>
   e= .returned (.tuple #[])/\∃(n v':Nat) (dk:Array UInt8),w'=(putRow (fun (b:UInt8)=>Value.int .u8 (b.toNat:Int)) w cT off dk).drewN n/\FmtInv d.size u 0 v' dk:=Any.internal_strconv_formatBase10 Tryz.afV cT off cap u d w hH hu AF dM
def Tryz.Z4:xu:=⟨fun | 171=>242 | 243=>281 | 246=>319 | 283=>320 | 284=>321 | 285=>322 | 286=>323 | 129=>293 | 317=>340 | 318=>341 | 319=>342 | 320=>343 | 337=>350 | 338=>351 | n=>n,fun | 3=>3 | 9=>9 | 2=>2 | 4=>4 | 171=>369 | 0=>0 | 53=>293 | 37=>308 | 5=>5 | 173=>371 | 212=>347 | 51=>373 | 20=>20 | 213=>394 | 46=>329 | 232=>409 | 233=>410 | n=>n,fun | 17=>9 | 18=>12 | 19=>13 | n=>n⟩
def Tryz.ad6:yat Tryz.prog Tryz.Z4:=by
 repeat' first | kernel_rfl | (intro w;kernel_rfl) | decide | constructor
open Go.RowKit Go.Sort Go.Lib in
def Tryz.strconv_Itoa (n:Int) (h0: -9223372036854775808<=n) (h1:n<=9223372036854775807) (w:yh) (AE:Lib.TabIs Tryz.prog w "internal/strconv.uint64pow10" .u64 Lib.pow10Tab):
  xE Tryz.prog 242 #[.int .i64 n] w fun e w'=>e= .returned (.string ⟨(Lib.itoa n).toArray⟩)/\∃k os,w'=grow (w.drewN k) os:=Any.strconv_Itoa Tryz.ad6 n h0 h1 w AE
def Tryz.aas:xu:=⟨fun | 145=>141 | 220=>212 | 219=>269 | 217=>310 | 225=>311 | 224=>312 | 267=>313 | 266=>335 | 314=>336 | n=>n,fun | 9=>9 | 4=>4 | 59=>219 | 3=>3 | 5=>5 | 46=>329 | 146=>374 | 51=>373 | n=>n,fun | 1=>4 | n=>n⟩
def Tryz.afW:yaM Tryz.prog Tryz.aas:=by
 repeat' first | kernel_rfl | (intro w;kernel_rfl) | decide | constructor
open Go.RowKit Go.Lib in
def Tryz.strings_Cut (s sep:ByteArray) (m:Int) (w:yh) (hs:s.size<4294967281) (hm:w.cell? ⟨4,0,none⟩=some (.int .i64 m)):
  xE Tryz.prog 141 #[.string s,.string sep] w fun e w'=>e= .returned (.tuple #[.string ⟨(Lib.cut s.data.toList sep.data.toList).1.toArray⟩,.string ⟨(Lib.cut s.data.toList sep.data.toList).2.1.toArray⟩,.bool (Lib.cut s.data.toList sep.data.toList).2.2])/\∃n,w'=w.drewN n:=Any.strings_Cut Tryz.afW s sep m w hs hm
def Tryz.Z5:xu:=⟨fun | 145=>141 | 220=>212 | 219=>269 | 217=>310 | 225=>311 | 224=>312 | 267=>313 | 266=>335 | 314=>336 | n=>n,fun | 9=>9 | 4=>4 | 59=>219 | 3=>3 | 5=>5 | 46=>329 | 146=>374 | 51=>373 | n=>n,fun | 1=>4 | n=>n⟩
def Tryz.ad7:yau Tryz.prog Tryz.Z5:=by
 repeat' first | kernel_rfl | (intro w;kernel_rfl) | exact fun w h=>Go.Proofs.cell_of_shapedOpen_int (zero:=#[.int .i64 0]) (t:=3) h (of_decide_eq_true (by kernel_rfl)) (by kernel_rfl) rfl (by kernel_rfl) (by kernel_rfl) Tryz.underlying3 | decide | constructor
def Tryz.aa1:xu:=⟨fun | 99=>213 | 206=>270 | n=>n,fun | 9=>9 | 4=>4 | 3=>3 | n=>n,fun | n=>n⟩
def Tryz.ahY:yaN Tryz.prog Tryz.aa1:=by
 repeat' first | kernel_rfl | (intro w;kernel_rfl) | decide | constructor
open Go.RowKit Go.Lib in
def Tryz.strings_HasPrefix (s p:ByteArray) (w:yh):
  xE Tryz.prog 213 #[.string s,.string p] w fun e w'=>e= .returned (.bool (Lib.hasPrefix s.data.toList p.data.toList))/\w'=w:=Any.strings_HasPrefix Tryz.ahY s p w
def Tryz.aat:xu:=⟨fun | 101=>214 | 208=>271 | 206=>270 | n=>n,fun | 9=>9 | 4=>4 | 3=>3 | n=>n,fun | n=>n⟩
def Tryz.afX:yaO Tryz.prog Tryz.aat:=by
 repeat' first | kernel_rfl | (intro w;kernel_rfl) | decide | constructor
open Go.RowKit Go.Lib in
def Tryz.strings_TrimPrefix (s p:ByteArray) (w:yh):
  xE Tryz.prog 214 #[.string s,.string p] w fun e w'=>e= .returned (.string ⟨(Lib.trimPrefix s.data.toList p.data.toList).toArray⟩)/\w'=w:=Any.strings_TrimPrefix Tryz.afX s p w
def Tryz.aau:xu:=⟨fun | 264=>229 | n=>n,fun | 53=>293 | 46=>329 | n=>n,fun | n=>n⟩
def Tryz.afY:yaP Tryz.prog Tryz.aau:=by
 repeat' first | kernel_rfl | (intro w;kernel_rfl) | decide | constructor
open Go.RowKit Go.Lib in
def Tryz.bits_Mul64 (x y:Nat) (hx:x<18446744073709551616) (hy:y<18446744073709551616) (w:yh):
  xE Tryz.prog 229 #[.int .u64 x,.int .u64 y] w fun e w'=>e= .returned (.tuple #[.int .u64 ((x*y/18446744073709551616:Nat):Int),.int .u64 ((x*y%18446744073709551616:Nat):Int)])/\w'=w:=Any.bits_Mul64 Tryz.afY x y hx hy w
def Tryz.QQ:xu:=⟨fun | 105=>245 | 212=>287 | 99=>213 | 165=>288 | 166=>246 | 170=>289 | 169=>247 | 263=>324 | 264=>229 | 206=>270 | 240=>290 | 241=>325 | 276=>326 | 277=>344 | n=>n,fun | 9=>9 | 3=>3 | 4=>4 | 20=>20 | 0=>0 | 46=>329 | 109=>340 | 5=>5 | 72=>310 | 76=>280 | 51=>373 | 146=>374 | 53=>293 | 148=>294 | 70=>307 | 37=>308 | 75=>279 | 127=>343 | 164=>376 | 80=>249 | n=>n,fun | n=>n⟩
def Tryz.afZ:yaQ Tryz.prog Tryz.QQ:=by
 repeat' first | kernel_rfl | (intro w;kernel_rfl) | decide | constructor
def Tryz.ZL:Builder.Extra Tryz.prog Tryz.QQ:=by
 repeat' first | kernel_rfl | (intro w;kernel_rfl) | decide | constructor
open Go.RowKit Go.Lib in
def Tryz.strings_Repeat (s:ByteArray) (c:Nat) (w:yh) (hc:c<=9223372036854775807) (hlen:s.size*c<=140737488355328):
  xE Tryz.prog 245 #[.string s,.int .i64 c] w fun e w'=>e= .returned (.string ⟨(Lib.repeatL s.data.toList c).toArray⟩)/\Below w.heap.size w w':=Any.strings_Repeat Tryz.afZ Tryz.ZL s c w hc hlen
def Tryz.Z6:xu:=⟨fun | 25=>277 | n=>n,fun | 22=>293 | n=>n,fun | n=>n⟩
def Tryz.ad8:yav Tryz.prog Tryz.Z6:=by
 repeat' first | kernel_rfl | (intro w;kernel_rfl) | decide | constructor
def Tryz.Z7:xu:=⟨fun | 26=>279 | n=>n,fun | 22=>293 | n=>n,fun | n=>n⟩
def Tryz.ad9:yaw Tryz.prog Tryz.Z7:=by
 repeat' first | kernel_rfl | (intro w;kernel_rfl) | decide | constructor
def Tryz.bits_Add64 (x y c:Nat) (hc:c<=1) (w:yh):
  (callFunc 277 #[.int .u64 x,.int .u64 y,.int .u64 c]).run Tryz.prog w=
   .ok (.value (.tuple #[.int .u64 (((x+y+c)%18446744073709551616:Nat):Int),.int .u64 (((x+y+c)/18446744073709551616:Nat):Int)])) w:=Any7.bits_Add64 Tryz.ad8 x y c hc w
def Tryz.bits_Sub64 (x y b:Nat) (hb:b<=1) (w:yh):
  (callFunc 279 #[.int .u64 x,.int .u64 y,.int .u64 b]).run Tryz.prog w=
   .ok (.value (.tuple #[.int .u64 (((x+18446744073709551616-y-b)%18446744073709551616:Nat):Int),.int .u64 ((if x<y+b then 1 else 0:Nat):Int)])) w:=Any7.bits_Sub64 Tryz.ad9 x y b hb w
open Go.RowKit in
def Tryz.Z8 (s EP:ByteArray) (w:yh) (hs:s.size<=9223372036854775807) (gO:EP.size<4294967281) (ahZ:∀(j:Nat) b,EP.data.toList[j]? =some b->b.toNat<128):
  xE Tryz.prog 267 #[.string s,.string EP] w fun e w'=>e= .returned (.string ⟨(Lib.trimS s.data.toList EP.data.toList).toArray⟩)/\Below w.heap.size w w':=
 Any.strings_Trim_laid Tryz.afP (by kernel_rfl) s EP w hs gO ahZ
def Tryz.s1_3 (w:yh) (h:w.ShapedOpen Tryz.prog):∃m,w.cell? ⟨4,0,none⟩=some (.int .i64 m):=Tryz.ad7.s1_3 w h
def Tryz.QR:xu:=⟨fun | 166=>246 | 240=>290 | 276=>326 | n=>n,fun | 20=>20 | 37=>308 | 70=>307 | 72=>310 | 75=>279 | 80=>249 | 164=>376 | n=>n,fun | n=>n⟩
def Tryz.af0:yaR Tryz.prog Tryz.QR:=by
 repeat' first | kernel_rfl | (intro w;kernel_rfl) | decide | constructor
def Tryz.ZM:Builder.Extra Tryz.prog Tryz.QR:=by
 repeat' first | kernel_rfl | (intro w;kernel_rfl) | decide | constructor
open Go.RowKit in
def Tryz.Builder_WriteString (B b:Nat) (bs:List Value) (s:ByteArray) (w:yh) (h:Lib.IsBuilder 310 5 B b bs w) (hlen:bs.length+s.size<=140737488355328) (Pr:B<=w.heap.size):
  xE Tryz.prog 246 #[.pointer (some ⟨b,0,none⟩),.string s] w fun e w'=>e= .returned (.tuple #[.int .i64 s.size,.nilIface])/\(Lib.BuilderAt 310 5 B b (.pointer (some ⟨b,0,none⟩)) (bs++Lib.strCells s) w'/\Below B w w'):=Any.Builder_WriteString Tryz.af0 Tryz.ZM B b bs s w h hlen Pr
end Go.Proofs
