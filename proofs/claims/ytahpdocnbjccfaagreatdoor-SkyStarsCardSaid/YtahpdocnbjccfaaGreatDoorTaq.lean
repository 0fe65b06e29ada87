import Derived.Shelf.Small.Bits
import Derived.Shelf.Small.Wraps
import Derived.Shelf.Strconv.Atoi
import Derived.Shelf.LaysM
import Derived.Shelf.Strconv.Itoa3
import Derived.Shelf.Strings.Cut
import Derived.Shelf.Strings.Prefix
import Derived.Shelf.Bits.Mul64
import Derived.Shelf.Strings.Repeat
import Derived.Shelf.Strings.SlTrimAscii
import Derived.Shelf.Spec.BitsCarry
import Derived.Shelf.Strings.Builder1
import Derived.Test.YtahpdocnbjccfaaGreatDoorProg
set_option linter.all false
set_option maxRecDepth 100000
namespace Go.Proofs
open Go.Shelf
def Tryz.lays169_ren:Go.Shelf.Ren:=⟨fun | 169=>202 | n=>n,fun | 70=>230 | 9=>9 | 0=>0 | 72=>233 | 37=>231 | 127=>257 | 3=>3 | 5=>5 | n=>n,fun | n=>n⟩
theorem Tryz.lays169:Go.Proofs.Lays.n169 Tryz.prog Tryz.lays169_ren:=by
 repeat' first | kernel_rfl | (intro w;kernel_rfl) | decide | constructor
theorem Tryz.Builder_Extra_169:Builder.Extra Tryz.prog Tryz.lays169_ren:=by
 repeat' first | kernel_rfl | (intro w;kernel_rfl) | decide | constructor
open Go.RowKit in
theorem Tryz.Builder_String_any (B b:Nat) (l:List UInt8) (w:World) (h:Lib.IsBuilder 233 5 B b (Lib.byteCells l) w) (hBw:B≤w.heap.size):
  Calls Tryz.prog 202 #[.pointer (some ⟨b,0,none⟩)] w fun e w'=>e= .returned (.string ⟨l.toArray⟩)∧Below B w w':=Any.Builder_String_any Tryz.lays169 Tryz.Builder_Extra_169 B b l w h hBw
def Tryz.lays160_ren:Go.Shelf.Ren:=⟨fun | 160=>209 | 232=>237 | 231=>236 | 227=>238 | 234=>240 | 233=>239 | 236=>242 | 235=>241 | 228=>261 | 271=>264 | 151=>263 | 197=>262 | 120=>277 | 152=>276 | 260=>275 | 137=>282 | 119=>283 | 224=>245 | 225=>244 | 217=>243 | 266=>265 | n=>n,fun | 9=>9 | 4=>4 | 3=>3 | 5=>5 | 117=>261 | 116=>260 | 0=>0 | 124=>264 | 21=>21 | 105=>284 | 46=>243 | 119=>305 | 139=>308 | 138=>307 | n=>n,fun | 3=>6 | 4=>7 | n=>n⟩
theorem Tryz.lays160:Go.Proofs.Lays.n160 Tryz.prog Tryz.lays160_ren:=by
 repeat' first | kernel_rfl | (intro w;kernel_rfl) | decide | constructor
def Tryz.lays134_ren:Go.Shelf.Ren:=⟨fun | 134=>227 | 129=>253 | n=>n,fun | 53=>206 | 3=>3 | 4=>4 | 46=>243 | 5=>5 | 9=>9 | n=>n,fun | n=>n⟩
theorem Tryz.lays134:Go.Proofs.Lays.n134 Tryz.prog Tryz.lays134_ren:=by
 repeat' first | kernel_rfl | (intro w;kernel_rfl) | decide | constructor
theorem Tryz.bits_LeadingZeros64 (x:Int) (w:World) (h0:0≤x) (h1:x≤18446744073709551615):
  Calls Tryz.prog 227 #[.int .u64 x] w fun e w'=>e= .returned (.int .i64 (64-(Lib.bitLen x.toNat:Int)))∧w'=w:=Any.bits_LeadingZeros64 Tryz.lays134 x w h0 h1
def Tryz.lays103_ren:Go.Shelf.Ren:=⟨fun | 103=>158 | 210=>208 | 206=>213 | n=>n,fun | 9=>9 | 4=>4 | 24=>193 | 3=>3 | n=>n,fun | n=>n⟩
theorem Tryz.lays103:Go.Proofs.Lays.n103 Tryz.prog Tryz.lays103_ren:=by
 repeat' first | kernel_rfl | (intro w;kernel_rfl) | decide | constructor
open Go.RowKit in
theorem Tryz.strings_CutPrefix (s p:ByteArray) (w:World):
  Calls Tryz.prog 158 #[.string s,.string p] w fun e w'=>e= .returned (.tuple #[.string ⟨(Lib.trimPrefix s.data.toList p.data.toList).toArray⟩,.bool (Lib.hasPrefix s.data.toList p.data.toList)])∧w'=w:=Any.strings_CutPrefix Tryz.lays103 s p w
def Tryz.lays172_ren:Go.Shelf.Ren:=⟨fun | 172=>165 | 244=>215 | 245=>216 | 247=>247 | 279=>248 | 280=>249 | 281=>250 | 282=>251 | 287=>267 | 316=>268 | 171=>197 | 205=>269 | 321=>278 | 322=>279 | 243=>225 | 246=>252 | 283=>254 | 284=>255 | 285=>256 | 286=>257 | 129=>253 | 317=>270 | 318=>271 | 319=>272 | 320=>273 | 337=>280 | 338=>281 | n=>n,fun | 9=>9 | 3=>3 | 75=>200 | 76=>201 | 4=>4 | 5=>5 | 167=>267 | 37=>231 | 0=>0 | 85=>268 | 2=>2 | 168=>270 | 53=>206 | 175=>288 | 46=>243 | 210=>292 | 127=>257 | 145=>303 | 143=>301 | 21=>21 | 171=>274 | 173=>276 | 212=>295 | 51=>278 | 20=>20 | 213=>296 | 232=>310 | 233=>311 | 80=>170 | n=>n,fun | 15=>3 | 16=>4 | 17=>5 | 18=>8 | 19=>9 | n=>n⟩
theorem Tryz.lays172:Go.Proofs.Lays.n172 Tryz.prog Tryz.lays172_ren:=by
 repeat' first | kernel_rfl | (intro w;kernel_rfl) | decide | constructor
open Go.RowKit in
theorem Tryz.strconv_Atoi (s:ByteArray) (n:Int) (hl:s.size≤18) (h:Lib.atoi s.data.toList=some n) (w:World):
  Calls Tryz.prog 165 #[.string s] w fun e w'=>e= .returned (.tuple #[.int .i64 n,.nilIface])∧∃t,w'=Lib.bytesWorld w 5 t:=Any.strconv_Atoi Tryz.lays172 s n hl h w
def Tryz.lays129_ren:Go.Shelf.Ren:=⟨fun | 129=>253 | n=>n,fun | 53=>206 | 3=>3 | 4=>4 | 46=>243 | 5=>5 | 9=>9 | n=>n,fun | n=>n⟩
theorem Tryz.lays129:Go.Proofs.Lays.n129 Tryz.prog Tryz.lays129_ren:=by
 repeat' first | kernel_rfl | (intro w;kernel_rfl) | decide | constructor
theorem Tryz.bits_Len64 (x:Int) (w:World) (h0:0≤x) (h1:x≤18446744073709551615):
  Calls Tryz.prog 253 #[.int .u64 x] w fun e w'=>e= .returned (.int .i64 (Lib.bitLen x.toNat))∧w'=w:=Any.bits_Len64 Tryz.lays129 x w h0 h1
def Tryz.lays283_ren:Go.Shelf.Ren:=⟨fun | 283=>254 | n=>n,fun | 3=>3 | 9=>9 | 4=>4 | n=>n,fun | n=>n⟩
theorem Tryz.lays283:Go.Proofs.Lays.n283 Tryz.prog Tryz.lays283_ren:=by
 repeat' first | kernel_rfl | (intro w;kernel_rfl) | decide | constructor
open Go.Lib in
theorem Tryz.internal_strconv_small (i:Nat) (h:i<100) (w:World):
  Calls Tryz.prog 254 #[.int .i64 i] w fun e w'=>e= .returned (.string ⟨(Lib.decDigits i).toArray⟩)∧w'=w:=Any.internal_strconv_small Tryz.lays283 i h w
def Tryz.laysM284_ren:Go.Shelf.Ren:=⟨fun | 284=>255 | 129=>253 | 317=>270 | 318=>271 | n=>n,fun | 53=>206 | 3=>3 | 212=>295 | 0=>0 | 4=>4 | 46=>243 | 5=>5 | 9=>9 | n=>n,fun | 17=>5 | n=>n⟩
theorem Tryz.laysM284:Go.Proofs.LaysM.n284 Tryz.prog Tryz.laysM284_ren:=by
 repeat' first | kernel_rfl | (intro w;kernel_rfl) | decide | constructor
open Go.Lib in
theorem Tryz.internal_strconv_numDigits (u:Nat) (h1:1≤u) (h2:u<18446744073709551616) (w:World) (htab:Lib.TabIs Tryz.prog w "internal/strconv.uint64pow10" .u64 Lib.pow10Tab):
  Calls Tryz.prog 255 #[.int .u64 u] w fun e w'=>e= .returned (.int .i64 (Lib.nDigits u))∧w'=w:=Any.internal_strconv_numDigits Tryz.laysM284 u h1 h2 w htab
def Tryz.lays285_ren:Go.Shelf.Ren:=⟨fun | 285=>256 | n=>n,fun | 37=>231 | 53=>206 | 3=>3 | 4=>4 | 51=>278 | 9=>9 | 5=>5 | 0=>0 | n=>n,fun | n=>n⟩
theorem Tryz.lays285:Go.Proofs.Lays.n285 Tryz.prog Tryz.lays285_ren:=by
 repeat' first | kernel_rfl | (intro w;kernel_rfl) | decide | constructor
open Go.RowKit Go.Sort Go.Lib in
theorem Tryz.internal_strconv_formatBase10 (blk off cap:Nat) (u:Nat) (d:Array UInt8) (w:World) (hH:Holds (fun (b:UInt8)=>Value.int .u8 (b.toNat:Int)) w blk off d) (hu:u<10^d.size) (hu64:u<18446744073709551616) (hsz:d.size<4611686018427387904):
  Calls Tryz.prog 256 #[.slice (some ⟨blk,off,none⟩) d.size cap,.int .u64 u] w fun e w'=>
   e= .returned (.tuple #[])∧∃(n v':Nat) (dk:Array UInt8),w'=(putRow (fun (b:UInt8)=>Value.int .u8 (b.toNat:Int)) w blk off dk).drewN n∧FmtInv d.size u 0 v' dk:=Any.internal_strconv_formatBase10 Tryz.lays285 blk off cap u d w hH hu hu64 hsz
def Tryz.laysM171_ren:Go.Shelf.Ren:=⟨fun | 171=>197 | 243=>225 | 246=>252 | 283=>254 | 284=>255 | 285=>256 | 286=>257 | 129=>253 | 317=>270 | 318=>271 | 319=>272 | 320=>273 | 337=>280 | 338=>281 | n=>n,fun | 3=>3 | 9=>9 | 2=>2 | 4=>4 | 171=>274 | 0=>0 | 53=>206 | 37=>231 | 5=>5 | 173=>276 | 212=>295 | 51=>278 | 20=>20 | 213=>296 | 46=>243 | 232=>310 | 233=>311 | n=>n,fun | 17=>5 | 18=>8 | 19=>9 | n=>n⟩
theorem Tryz.laysM171:Go.Proofs.LaysM.n171 Tryz.prog Tryz.laysM171_ren:=by
 repeat' first | kernel_rfl | (intro w;kernel_rfl) | decide | constructor
open Go.RowKit Go.Sort Go.Lib in
theorem Tryz.strconv_Itoa (n:Int) (h0: -9223372036854775808≤n) (h1:n≤9223372036854775807) (w:World) (htab:Lib.TabIs Tryz.prog w "internal/strconv.uint64pow10" .u64 Lib.pow10Tab):
  Calls Tryz.prog 197 #[.int .i64 n] w fun e w'=>e= .returned (.string ⟨(Lib.itoa n).toArray⟩)∧∃k os,w'=grow (w.drewN k) os:=Any.strconv_Itoa Tryz.laysM171 n h0 h1 w htab
def Tryz.lays145_ren:Go.Shelf.Ren:=⟨fun | 145=>114 | 220=>162 | 219=>212 | 217=>243 | 225=>244 | 224=>245 | 267=>246 | 266=>265 | 314=>266 | n=>n,fun | 9=>9 | 4=>4 | 59=>152 | 3=>3 | 5=>5 | 46=>243 | 146=>279 | 51=>278 | n=>n,fun | 1=>0 | n=>n⟩
theorem Tryz.lays145:Go.Proofs.Lays.n145 Tryz.prog Tryz.lays145_ren:=by
 repeat' first | kernel_rfl | (intro w;kernel_rfl) | decide | constructor
open Go.RowKit Go.Lib in
theorem Tryz.strings_Cut (s sep:ByteArray) (m:Int) (w:World) (hs:s.size<4294967281) (hm:w.cell? ⟨0,0,none⟩=some (.int .i64 m)):
  Calls Tryz.prog 114 #[.string s,.string sep] w fun e w'=>e= .returned (.tuple #[.string ⟨(Lib.cut s.data.toList sep.data.toList).1.toArray⟩,.string ⟨(Lib.cut s.data.toList sep.data.toList).2.1.toArray⟩,.bool (Lib.cut s.data.toList sep.data.toList).2.2])∧∃n,w'=w.drewN n:=Any.strings_Cut Tryz.lays145 s sep m w hs hm
def Tryz.laysM145_ren:Go.Shelf.Ren:=⟨fun | 145=>114 | 220=>162 | 219=>212 | 217=>243 | 225=>244 | 224=>245 | 267=>246 | 266=>265 | 314=>266 | n=>n,fun | 9=>9 | 4=>4 | 59=>152 | 3=>3 | 5=>5 | 46=>243 | 146=>279 | 51=>278 | n=>n,fun | 1=>0 | n=>n⟩
theorem Tryz.laysM145:Go.Proofs.LaysM.n145 Tryz.prog Tryz.laysM145_ren:=by
 repeat' first | kernel_rfl | (intro w;kernel_rfl) | exact fun w h=>Go.Proofs.cell_of_shapedOpen_int (zero:=#[.int .i64 0]) (t:=3) h (of_decide_eq_true (by kernel_rfl)) (by kernel_rfl) rfl (by kernel_rfl) (by kernel_rfl) Tryz.underlying3 | decide | constructor
def Tryz.lays99_ren:Go.Shelf.Ren:=⟨fun | 99=>163 | 206=>213 | n=>n,fun | 9=>9 | 4=>4 | 3=>3 | n=>n,fun | n=>n⟩
theorem Tryz.lays99:Go.Proofs.Lays.n99 Tryz.prog Tryz.lays99_ren:=by
 repeat' first | kernel_rfl | (intro w;kernel_rfl) | decide | constructor
open Go.RowKit Go.Lib in
theorem Tryz.strings_HasPrefix (s p:ByteArray) (w:World):
  Calls Tryz.prog 163 #[.string s,.string p] w fun e w'=>e= .returned (.bool (Lib.hasPrefix s.data.toList p.data.toList))∧w'=w:=Any.strings_HasPrefix Tryz.lays99 s p w
def Tryz.lays101_ren:Go.Shelf.Ren:=⟨fun | 101=>164 | 208=>214 | 206=>213 | n=>n,fun | 9=>9 | 4=>4 | 3=>3 | n=>n,fun | n=>n⟩
theorem Tryz.lays101:Go.Proofs.Lays.n101 Tryz.prog Tryz.lays101_ren:=by
 repeat' first | kernel_rfl | (intro w;kernel_rfl) | decide | constructor
open Go.RowKit Go.Lib in
theorem Tryz.strings_TrimPrefix (s p:ByteArray) (w:World):
  Calls Tryz.prog 164 #[.string s,.string p] w fun e w'=>e= .returned (.string ⟨(Lib.trimPrefix s.data.toList p.data.toList).toArray⟩)∧w'=w:=Any.strings_TrimPrefix Tryz.lays101 s p w
def Tryz.lays264_ren:Go.Shelf.Ren:=⟨fun | 264=>174 | n=>n,fun | 53=>206 | 46=>243 | n=>n,fun | n=>n⟩
theorem Tryz.lays264:Go.Proofs.Lays.n264 Tryz.prog Tryz.lays264_ren:=by
 repeat' first | kernel_rfl | (intro w;kernel_rfl) | decide | constructor
open Go.RowKit Go.Lib in
theorem Tryz.bits_Mul64 (x y:Nat) (hx:x<18446744073709551616) (hy:y<18446744073709551616) (w:World):
  Calls Tryz.prog 174 #[.int .u64 x,.int .u64 y] w fun e w'=>e= .returned (.tuple #[.int .u64 ((x*y/18446744073709551616:Nat):Int),.int .u64 ((x*y%18446744073709551616:Nat):Int)])∧w'=w:=Any.bits_Mul64 Tryz.lays264 x y hx hy w
def Tryz.lays105_ren:Go.Shelf.Ren:=⟨fun | 105=>200 | 212=>231 | 99=>163 | 165=>232 | 166=>201 | 170=>233 | 169=>202 | 263=>258 | 264=>174 | 206=>213 | 240=>234 | 241=>259 | 276=>260 | 277=>274 | n=>n,fun | 9=>9 | 3=>3 | 4=>4 | 20=>20 | 0=>0 | 46=>243 | 109=>254 | 5=>5 | 72=>233 | 76=>201 | 51=>278 | 146=>279 | 53=>206 | 148=>207 | 70=>230 | 37=>231 | 75=>200 | 127=>257 | 164=>281 | 80=>170 | n=>n,fun | n=>n⟩
theorem Tryz.lays105:Go.Proofs.Lays.n105 Tryz.prog Tryz.lays105_ren:=by
 repeat' first | kernel_rfl | (intro w;kernel_rfl) | decide | constructor
theorem Tryz.Builder_Extra_105:Builder.Extra Tryz.prog Tryz.lays105_ren:=by
 repeat' first | kernel_rfl | (intro w;kernel_rfl) | decide | constructor
open Go.RowKit Go.Lib in
theorem Tryz.strings_Repeat (s:ByteArray) (c:Nat) (w:World) (hc:c≤9223372036854775807) (hlen:s.size*c≤140737488355328):
  Calls Tryz.prog 200 #[.string s,.int .i64 c] w fun e w'=>e= .returned (.string ⟨(Lib.repeatL s.data.toList c).toArray⟩)∧Below w.heap.size w w':=Any.strings_Repeat Tryz.lays105 Tryz.Builder_Extra_105 s c w hc hlen
def Tryz.lays7_25_ren:Go.Shelf.Ren:=⟨fun | 25=>218 | n=>n,fun | 22=>206 | n=>n,fun | n=>n⟩
theorem Tryz.lays7_25:Go.Proofs.Lays7.n25 Tryz.prog Tryz.lays7_25_ren:=by
 repeat' first | kernel_rfl | (intro w;kernel_rfl) | decide | constructor
def Tryz.lays7_26_ren:Go.Shelf.Ren:=⟨fun | 26=>220 | n=>n,fun | 22=>206 | n=>n,fun | n=>n⟩
theorem Tryz.lays7_26:Go.Proofs.Lays7.n26 Tryz.prog Tryz.lays7_26_ren:=by
 repeat' first | kernel_rfl | (intro w;kernel_rfl) | decide | constructor
theorem Tryz.bits_Add64 (x y c:Nat) (hc:c≤1) (w:World):
  (callFunc 218 #[.int .u64 x,.int .u64 y,.int .u64 c]).run Tryz.prog w=
   .ok (.value (.tuple #[.int .u64 (((x+y+c)%18446744073709551616:Nat):Int),.int .u64 (((x+y+c)/18446744073709551616:Nat):Int)])) w:=Any7.bits_Add64 Tryz.lays7_25 x y c hc w
theorem Tryz.bits_Sub64 (x y b:Nat) (hb:b≤1) (w:World):
  (callFunc 220 #[.int .u64 x,.int .u64 y,.int .u64 b]).run Tryz.prog w=
   .ok (.value (.tuple #[.int .u64 (((x+18446744073709551616-y-b)%18446744073709551616:Nat):Int),.int .u64 ((if x<y+b then 1 else 0:Nat):Int)])) w:=Any7.bits_Sub64 Tryz.lays7_26 x y b hb w
open Go.RowKit in
theorem Tryz.strings_Trim (s cutset:ByteArray) (w:World) (hs:s.size≤9223372036854775807) (hcs:cutset.size<4294967281) (hascii:∀(j:Nat) b,cutset.data.toList[j]? =some b→b.toNat<128):
  Calls Tryz.prog 209 #[.string s,.string cutset] w fun e w'=>e= .returned (.string ⟨(Lib.trimS s.data.toList cutset.data.toList).toArray⟩)∧Below w.heap.size w w':=
 Any.strings_Trim_laid Tryz.lays160 (by kernel_rfl) s cutset w hs hcs hascii
theorem Tryz.s1_3 (w:World) (h:w.ShapedOpen Tryz.prog):∃m,w.cell? ⟨0,0,none⟩=some (.int .i64 m):=Tryz.laysM145.s1_3 w h
def Tryz.lays166_ren:Go.Shelf.Ren:=⟨fun | 166=>201 | 240=>234 | 276=>260 | n=>n,fun | 20=>20 | 37=>231 | 70=>230 | 72=>233 | 75=>200 | 80=>170 | 164=>281 | n=>n,fun | n=>n⟩
theorem Tryz.lays166:Go.Proofs.Lays.n166 Tryz.prog Tryz.lays166_ren:=by
 repeat' first | kernel_rfl | (intro w;kernel_rfl) | decide | constructor
theorem Tryz.Builder_Extra_166:Builder.Extra Tryz.prog Tryz.lays166_ren:=by
 repeat' first | kernel_rfl | (intro w;kernel_rfl) | decide | constructor
open Go.RowKit in
theorem Tryz.Builder_WriteString (B b:Nat) (bs:List Value) (s:ByteArray) (w:World) (h:Lib.IsBuilder 233 5 B b bs w) (hlen:bs.length+s.size≤140737488355328) (hBw:B≤w.heap.size):
  Calls Tryz.prog 201 #[.pointer (some ⟨b,0,none⟩),.string s] w fun e w'=>e= .returned (.tuple #[.int .i64 s.size,.nilIface])∧(Lib.BuilderAt 233 5 B b (.pointer (some ⟨b,0,none⟩)) (bs++Lib.strCells s) w'∧Below B w w'):=Any.Builder_WriteString Tryz.lays166 Tryz.Builder_Extra_166 B b bs s w h hlen hBw
end Go.Proofs
