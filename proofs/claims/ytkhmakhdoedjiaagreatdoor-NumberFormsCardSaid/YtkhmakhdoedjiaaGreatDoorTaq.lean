import Derived.Shelf.Small.Bits
import Derived.Shelf.Small.Wraps
import Derived.Shelf.Strconv.Atoi
import Derived.Shelf.LaysM
import Derived.Shelf.Strconv.Itoa3
import Derived.Shelf.Strings.Cut
import Derived.Shelf.Strings.Prefix
import Derived.Shelf.Bits.Mul64
import Derived.Shelf.Strings.Repeat
import Derived.Shelf.Strings.SlTrimAscii
import Derived.Shelf.Spec.BitsCarry
import Derived.Shelf.Strings.Builder1
import Derived.Test.YtkhmakhdoedjiaaGreatDoorProg
set_option linter.all false
set_option maxRecDepth 100000
namespace Go.Proofs
open Go.Shelf
def Tryz.lays169_ren:Go.Shelf.Ren:=⟨fun | 169=>176 | n=>n,fun | 70=>203 | 9=>9 | 0=>0 | 72=>206 | 37=>204 | 127=>224 | 3=>3 | 5=>5 | n=>n,fun | n=>n⟩
theorem Tryz.lays169:Go.Proofs.Lays.n169 Tryz.prog Tryz.lays169_ren:=by
 repeat' first | kernel_rfl | (intro w;kernel_rfl) | decide | constructor
theorem Tryz.Builder_Extra_169:Builder.Extra Tryz.prog Tryz.lays169_ren:=by
 repeat' first | kernel_rfl | (intro w;kernel_rfl) | decide | constructor
open Go.RowKit in
theorem Tryz.Builder_String_any (B b:Nat) (l:List UInt8) (w:World) (h:Lib.IsBuilder 206 5 B b (Lib.byteCells l) w) (hBw:B≤w.heap.size):
  Calls Tryz.prog 176 #[.pointer (some ⟨b,0,none⟩)] w fun e w'=>e= .returned (.string ⟨l.toArray⟩)∧Below B w w':=Any.Builder_String_any Tryz.lays169 Tryz.Builder_Extra_169 B b l w h hBw
def Tryz.lays160_ren:Go.Shelf.Ren:=⟨fun | 160=>144 | 232=>180 | 231=>179 | 227=>181 | 234=>183 | 233=>182 | 236=>185 | 235=>184 | 228=>207 | 271=>210 | 151=>209 | 197=>208 | 120=>228 | 152=>227 | 260=>226 | 137=>237 | 119=>238 | 224=>205 | 225=>204 | 217=>203 | 266=>224 | n=>n,fun | 9=>9 | 4=>4 | 3=>3 | 5=>5 | 117=>211 | 116=>210 | 0=>0 | 124=>214 | 21=>21 | 105=>228 | 46=>190 | 119=>261 | 139=>264 | 138=>263 | n=>n,fun | 3=>7 | 4=>8 | n=>n⟩
theorem Tryz.lays160:Go.Proofs.Lays.n160 Tryz.prog Tryz.lays160_ren:=by
 repeat' first | kernel_rfl | (intro w;kernel_rfl) | decide | constructor
def Tryz.lays134_ren:Go.Shelf.Ren:=⟨fun | 134=>191 | 129=>134 | n=>n,fun | 53=>165 | 3=>3 | 4=>4 | 46=>190 | 5=>5 | 9=>9 | n=>n,fun | n=>n⟩
theorem Tryz.lays134:Go.Proofs.Lays.n134 Tryz.prog Tryz.lays134_ren:=by
 repeat' first | kernel_rfl | (intro w;kernel_rfl) | decide | constructor
theorem Tryz.bits_LeadingZeros64 (x:Int) (w:World) (h0:0≤x) (h1:x≤18446744073709551615):
  Calls Tryz.prog 191 #[.int .u64 x] w fun e w'=>e= .returned (.int .i64 (64-(Lib.bitLen x.toNat:Int)))∧w'=w:=Any.bits_LeadingZeros64 Tryz.lays134 x w h0 h1
def Tryz.lays103_ren:Go.Shelf.Ren:=⟨fun | 103=>101 | 210=>142 | 206=>177 | n=>n,fun | 9=>9 | 4=>4 | 24=>135 | 3=>3 | n=>n,fun | n=>n⟩
theorem Tryz.lays103:Go.Proofs.Lays.n103 Tryz.prog Tryz.lays103_ren:=by
 repeat' first | kernel_rfl | (intro w;kernel_rfl) | decide | constructor
open Go.RowKit in
theorem Tryz.strings_CutPrefix (s p:ByteArray) (w:World):
  Calls Tryz.prog 101 #[.string s,.string p] w fun e w'=>e= .returned (.tuple #[.string ⟨(Lib.trimPrefix s.data.toList p.data.toList).toArray⟩,.bool (Lib.hasPrefix s.data.toList p.data.toList)])∧w'=w:=Any.strings_CutPrefix Tryz.lays103 s p w
def Tryz.lays172_ren:Go.Shelf.Ren:=⟨fun | 172=>147 | 244=>187 | 245=>188 | 247=>211 | 279=>212 | 280=>213 | 281=>214 | 282=>215 | 287=>229 | 316=>230 | 171=>172 | 205=>231 | 321=>239 | 322=>240 | 243=>197 | 246=>216 | 283=>217 | 284=>218 | 285=>219 | 286=>220 | 129=>134 | 317=>232 | 318=>233 | 319=>234 | 320=>235 | 337=>241 | 338=>242 | n=>n,fun | 9=>9 | 3=>3 | 75=>174 | 76=>175 | 4=>4 | 5=>5 | 167=>231 | 37=>204 | 0=>0 | 85=>232 | 2=>2 | 168=>234 | 53=>165 | 175=>249 | 46=>190 | 210=>253 | 127=>224 | 145=>268 | 143=>266 | 21=>21 | 171=>238 | 173=>240 | 212=>256 | 51=>242 | 20=>20 | 213=>257 | 232=>270 | 233=>271 | 80=>168 | n=>n,fun | 15=>4 | 16=>5 | 17=>6 | 18=>9 | 19=>10 | n=>n⟩
theorem Tryz.lays172:Go.Proofs.Lays.n172 Tryz.prog Tryz.lays172_ren:=by
 repeat' first | kernel_rfl | (intro w;kernel_rfl) | decide | constructor
open Go.RowKit in
theorem Tryz.strconv_Atoi (s:ByteArray) (n:Int) (hl:s.size≤18) (h:Lib.atoi s.data.toList=some n) (w:World):
  Calls Tryz.prog 147 #[.string s] w fun e w'=>e= .returned (.tuple #[.int .i64 n,.nilIface])∧∃t,w'=Lib.bytesWorld w 5 t:=Any.strconv_Atoi Tryz.lays172 s n hl h w
def Tryz.lays129_ren:Go.Shelf.Ren:=⟨fun | 129=>134 | n=>n,fun | 53=>165 | 3=>3 | 4=>4 | 46=>190 | 5=>5 | 9=>9 | n=>n,fun | n=>n⟩
theorem Tryz.lays129:Go.Proofs.Lays.n129 Tryz.prog Tryz.lays129_ren:=by
 repeat' first | kernel_rfl | (intro w;kernel_rfl) | decide | constructor
theorem Tryz.bits_Len64 (x:Int) (w:World) (h0:0≤x) (h1:x≤18446744073709551615):
  Calls Tryz.prog 134 #[.int .u64 x] w fun e w'=>e= .returned (.int .i64 (Lib.bitLen x.toNat))∧w'=w:=Any.bits_Len64 Tryz.lays129 x w h0 h1
def Tryz.lays283_ren:Go.Shelf.Ren:=⟨fun | 283=>217 | n=>n,fun | 3=>3 | 9=>9 | 4=>4 | n=>n,fun | n=>n⟩
theorem Tryz.lays283:Go.Proofs.Lays.n283 Tryz.prog Tryz.lays283_ren:=by
 repeat' first | kernel_rfl | (intro w;kernel_rfl) | decide | constructor
open Go.Lib in
theorem Tryz.internal_strconv_small (i:Nat) (h:i<100) (w:World):
  Calls Tryz.prog 217 #[.int .i64 i] w fun e w'=>e= .returned (.string ⟨(Lib.decDigits i).toArray⟩)∧w'=w:=Any.internal_strconv_small Tryz.lays283 i h w
def Tryz.laysM284_ren:Go.Shelf.Ren:=⟨fun | 284=>218 | 129=>134 | 317=>232 | 318=>233 | n=>n,fun | 53=>165 | 3=>3 | 212=>256 | 0=>0 | 4=>4 | 46=>190 | 5=>5 | 9=>9 | n=>n,fun | 17=>6 | n=>n⟩
theorem Tryz.laysM284:Go.Proofs.LaysM.n284 Tryz.prog Tryz.laysM284_ren:=by
 repeat' first | kernel_rfl | (intro w;kernel_rfl) | decide | constructor
open Go.Lib in
theorem Tryz.internal_strconv_numDigits (u:Nat) (h1:1≤u) (h2:u<18446744073709551616) (w:World) (htab:Lib.TabIs Tryz.prog w "internal/strconv.uint64pow10" .u64 Lib.pow10Tab):
  Calls Tryz.prog 218 #[.int .u64 u] w fun e w'=>e= .returned (.int .i64 (Lib.nDigits u))∧w'=w:=Any.internal_strconv_numDigits Tryz.laysM284 u h1 h2 w htab
def Tryz.lays285_ren:Go.Shelf.Ren:=⟨fun | 285=>219 | n=>n,fun | 37=>204 | 53=>165 | 3=>3 | 4=>4 | 51=>242 | 9=>9 | 5=>5 | 0=>0 | n=>n,fun | n=>n⟩
theorem Tryz.lays285:Go.Proofs.Lays.n285 Tryz.prog Tryz.lays285_ren:=by
 repeat' first | kernel_rfl | (intro w;kernel_rfl) | decide | constructor
open Go.RowKit Go.Sort Go.Lib in
theorem Tryz.internal_strconv_formatBase10 (blk off cap:Nat) (u:Nat) (d:Array UInt8) (w:World) (hH:Holds (fun (b:UInt8)=>Value.int .u8 (b.toNat:Int)) w blk off d) (hu:u<10^d.size) (hu64:u<18446744073709551616) (hsz:d.size<4611686018427387904):
  Calls Tryz.prog 219 #[.slice (some ⟨blk,off,none⟩) d.size cap,.int .u64 u] w fun e w'=>
   e= .returned (.tuple #[])∧∃(n v':Nat) (dk:Array UInt8),w'=(putRow (fun (b:UInt8)=>Value.int .u8 (b.toNat:Int)) w blk off dk).drewN n∧FmtInv d.size u 0 v' dk:=Any.internal_strconv_formatBase10 Tryz.lays285 blk off cap u d w hH hu hu64 hsz
def Tryz.laysM171_ren:Go.Shelf.Ren:=⟨fun | 171=>172 | 243=>197 | 246=>216 | 283=>217 | 284=>218 | 285=>219 | 286=>220 | 129=>134 | 317=>232 | 318=>233 | 319=>234 | 320=>235 | 337=>241 | 338=>242 | n=>n,fun | 3=>3 | 9=>9 | 2=>2 | 4=>4 | 171=>238 | 0=>0 | 53=>165 | 37=>204 | 5=>5 | 173=>240 | 212=>256 | 51=>242 | 20=>20 | 213=>257 | 46=>190 | 232=>270 | 233=>271 | n=>n,fun | 17=>6 | 18=>9 | 19=>10 | n=>n⟩
theorem Tryz.laysM171:Go.Proofs.LaysM.n171 Tryz.prog Tryz.laysM171_ren:=by
 repeat' first | kernel_rfl | (intro w;kernel_rfl) | decide | constructor
open Go.RowKit Go.Sort Go.Lib in
theorem Tryz.strconv_Itoa (n:Int) (h0: -9223372036854775808≤n) (h1:n≤9223372036854775807) (w:World) (htab:Lib.TabIs Tryz.prog w "internal/strconv.uint64pow10" .u64 Lib.pow10Tab):
  Calls Tryz.prog 172 #[.int .i64 n] w fun e w'=>e= .returned (.string ⟨(Lib.itoa n).toArray⟩)∧∃k os,w'=grow (w.drewN k) os:=Any.strconv_Itoa Tryz.laysM171 n h0 h1 w htab
def Tryz.lays145_ren:Go.Shelf.Ren:=⟨fun | 145=>102 | 220=>143 | 219=>178 | 217=>203 | 225=>204 | 224=>205 | 267=>206 | 266=>224 | 314=>225 | n=>n,fun | 9=>9 | 4=>4 | 59=>137 | 3=>3 | 5=>5 | 46=>190 | 146=>243 | 51=>242 | n=>n,fun | 1=>1 | n=>n⟩
theorem Tryz.lays145:Go.Proofs.Lays.n145 Tryz.prog Tryz.lays145_ren:=by
 repeat' first | kernel_rfl | (intro w;kernel_rfl) | decide | constructor
open Go.RowKit Go.Lib in
theorem Tryz.strings_Cut (s sep:ByteArray) (m:Int) (w:World) (hs:s.size<4294967281) (hm:w.cell? ⟨1,0,none⟩=some (.int .i64 m)):
  Calls Tryz.prog 102 #[.string s,.string sep] w fun e w'=>e= .returned (.tuple #[.string ⟨(Lib.cut s.data.toList sep.data.toList).1.toArray⟩,.string ⟨(Lib.cut s.data.toList sep.data.toList).2.1.toArray⟩,.bool (Lib.cut s.data.toList sep.data.toList).2.2])∧∃n,w'=w.drewN n:=Any.strings_Cut Tryz.lays145 s sep m w hs hm
def Tryz.laysM145_ren:Go.Shelf.Ren:=⟨fun | 145=>102 | 220=>143 | 219=>178 | 217=>203 | 225=>204 | 224=>205 | 267=>206 | 266=>224 | 314=>225 | n=>n,fun | 9=>9 | 4=>4 | 59=>137 | 3=>3 | 5=>5 | 46=>190 | 146=>243 | 51=>242 | n=>n,fun | 1=>1 | n=>n⟩
theorem Tryz.laysM145:Go.Proofs.LaysM.n145 Tryz.prog Tryz.laysM145_ren:=by
 repeat' first | kernel_rfl | (intro w;kernel_rfl) | exact fun w h=>Go.Proofs.cell_of_shapedOpen_int (zero:=#[.int .i64 0]) (t:=3) h (of_decide_eq_true (by kernel_rfl)) (by kernel_rfl) rfl (by kernel_rfl) (by kernel_rfl) Tryz.underlying3 | decide | constructor
def Tryz.lays99_ren:Go.Shelf.Ren:=⟨fun | 99=>145 | 206=>177 | n=>n,fun | 9=>9 | 4=>4 | 3=>3 | n=>n,fun | n=>n⟩
theorem Tryz.lays99:Go.Proofs.Lays.n99 Tryz.prog Tryz.lays99_ren:=by
 repeat' first | kernel_rfl | (intro w;kernel_rfl) | decide | constructor
open Go.RowKit Go.Lib in
theorem Tryz.strings_HasPrefix (s p:ByteArray) (w:World):
  Calls Tryz.prog 145 #[.string s,.string p] w fun e w'=>e= .returned (.bool (Lib.hasPrefix s.data.toList p.data.toList))∧w'=w:=Any.strings_HasPrefix Tryz.lays99 s p w
def Tryz.lays101_ren:Go.Shelf.Ren:=⟨fun | 101=>146 | 208=>186 | 206=>177 | n=>n,fun | 9=>9 | 4=>4 | 3=>3 | n=>n,fun | n=>n⟩
theorem Tryz.lays101:Go.Proofs.Lays.n101 Tryz.prog Tryz.lays101_ren:=by
 repeat' first | kernel_rfl | (intro w;kernel_rfl) | decide | constructor
open Go.RowKit Go.Lib in
theorem Tryz.strings_TrimPrefix (s p:ByteArray) (w:World):
  Calls Tryz.prog 146 #[.string s,.string p] w fun e w'=>e= .returned (.string ⟨(Lib.trimPrefix s.data.toList p.data.toList).toArray⟩)∧w'=w:=Any.strings_TrimPrefix Tryz.lays101 s p w
def Tryz.lays264_ren:Go.Shelf.Ren:=⟨fun | 264=>158 | n=>n,fun | 53=>165 | 46=>190 | n=>n,fun | n=>n⟩
theorem Tryz.lays264:Go.Proofs.Lays.n264 Tryz.prog Tryz.lays264_ren:=by
 repeat' first | kernel_rfl | (intro w;kernel_rfl) | decide | constructor
open Go.RowKit Go.Lib in
theorem Tryz.bits_Mul64 (x y:Nat) (hx:x<18446744073709551616) (hy:y<18446744073709551616) (w:World):
  Calls Tryz.prog 158 #[.int .u64 x,.int .u64 y] w fun e w'=>e= .returned (.tuple #[.int .u64 ((x*y/18446744073709551616:Nat):Int),.int .u64 ((x*y%18446744073709551616:Nat):Int)])∧w'=w:=Any.bits_Mul64 Tryz.lays264 x y hx hy w
def Tryz.lays105_ren:Go.Shelf.Ren:=⟨fun | 105=>174 | 212=>199 | 99=>145 | 165=>200 | 166=>175 | 170=>201 | 169=>176 | 263=>221 | 264=>158 | 206=>177 | 240=>202 | 241=>222 | 276=>223 | 277=>236 | n=>n,fun | 9=>9 | 3=>3 | 4=>4 | 20=>20 | 0=>0 | 46=>190 | 109=>221 | 5=>5 | 72=>206 | 76=>175 | 51=>242 | 146=>243 | 53=>165 | 148=>185 | 70=>203 | 37=>204 | 75=>174 | 127=>224 | 164=>245 | 80=>168 | n=>n,fun | n=>n⟩
theorem Tryz.lays105:Go.Proofs.Lays.n105 Tryz.prog Tryz.lays105_ren:=by
 repeat' first | kernel_rfl | (intro w;kernel_rfl) | decide | constructor
theorem Tryz.Builder_Extra_105:Builder.Extra Tryz.prog Tryz.lays105_ren:=by
 repeat' first | kernel_rfl | (intro w;kernel_rfl) | decide | constructor
open Go.RowKit Go.Lib in
theorem Tryz.strings_Repeat (s:ByteArray) (c:Nat) (w:World) (hc:c≤9223372036854775807) (hlen:s.size*c≤140737488355328):
  Calls Tryz.prog 174 #[.string s,.int .i64 c] w fun e w'=>e= .returned (.string ⟨(Lib.repeatL s.data.toList c).toArray⟩)∧Below w.heap.size w w':=Any.strings_Repeat Tryz.lays105 Tryz.Builder_Extra_105 s c w hc hlen
def Tryz.lays7_25_ren:Go.Shelf.Ren:=⟨fun | 25=>194 | n=>n,fun | 22=>165 | n=>n,fun | n=>n⟩
theorem Tryz.lays7_25:Go.Proofs.Lays7.n25 Tryz.prog Tryz.lays7_25_ren:=by
 repeat' first | kernel_rfl | (intro w;kernel_rfl) | decide | constructor
def Tryz.lays7_26_ren:Go.Shelf.Ren:=⟨fun | 26=>195 | n=>n,fun | 22=>165 | n=>n,fun | n=>n⟩
theorem Tryz.lays7_26:Go.Proofs.Lays7.n26 Tryz.prog Tryz.lays7_26_ren:=by
 repeat' first | kernel_rfl | (intro w;kernel_rfl) | decide | constructor
theorem Tryz.bits_Add64 (x y c:Nat) (hc:c≤1) (w:World):
  (callFunc 194 #[.int .u64 x,.int .u64 y,.int .u64 c]).run Tryz.prog w=
   .ok (.value (.tuple #[.int .u64 (((x+y+c)%18446744073709551616:Nat):Int),.int .u64 (((x+y+c)/18446744073709551616:Nat):Int)])) w:=Any7.bits_Add64 Tryz.lays7_25 x y c hc w
theorem Tryz.bits_Sub64 (x y b:Nat) (hb:b≤1) (w:World):
  (callFunc 195 #[.int .u64 x,.int .u64 y,.int .u64 b]).run Tryz.prog w=
   .ok (.value (.tuple #[.int .u64 (((x+18446744073709551616-y-b)%18446744073709551616:Nat):Int),.int .u64 ((if x<y+b then 1 else 0:Nat):Int)])) w:=Any7.bits_Sub64 Tryz.lays7_26 x y b hb w
open Go.RowKit in
theorem Tryz.strings_Trim (s cutset:ByteArray) (w:World) (hs:s.size≤9223372036854775807) (hcs:cutset.size<4294967281) (hascii:∀(j:Nat) b,cutset.data.toList[j]? =some b→b.toNat<128):
  Calls Tryz.prog 144 #[.string s,.string cutset] w fun e w'=>e= .returned (.string ⟨(Lib.trimS s.data.toList cutset.data.toList).toArray⟩)∧Below w.heap.size w w':=
 Any.strings_Trim_laid Tryz.lays160 (by kernel_rfl) s cutset w hs hcs hascii
theorem Tryz.s1_3 (w:World) (h:w.ShapedOpen Tryz.prog):∃m,w.cell? ⟨1,0,none⟩=some (.int .i64 m):=Tryz.laysM145.s1_3 w h
def Tryz.lays166_ren:Go.Shelf.Ren:=⟨fun | 166=>175 | 240=>202 | 276=>223 | n=>n,fun | 20=>20 | 37=>204 | 70=>203 | 72=>206 | 75=>174 | 80=>168 | 164=>245 | n=>n,fun | n=>n⟩
theorem Tryz.lays166:Go.Proofs.Lays.n166 Tryz.prog Tryz.lays166_ren:=by
 repeat' first | kernel_rfl | (intro w;kernel_rfl) | decide | constructor
theorem Tryz.Builder_Extra_166:Builder.Extra Tryz.prog Tryz.lays166_ren:=by
 repeat' first | kernel_rfl | (intro w;kernel_rfl) | decide | constructor
open Go.RowKit in
theorem Tryz.Builder_WriteString (B b:Nat) (bs:List Value) (s:ByteArray) (w:World) (h:Lib.IsBuilder 206 5 B b bs w) (hlen:bs.length+s.size≤140737488355328) (hBw:B≤w.heap.size):
  Calls Tryz.prog 175 #[.pointer (some ⟨b,0,none⟩),.string s] w fun e w'=>e= .returned (.tuple #[.int .i64 s.size,.nilIface])∧(Lib.BuilderAt 206 5 B b (.pointer (some ⟨b,0,none⟩)) (bs++Lib.strCells s) w'∧Below B w w'):=Any.Builder_WriteString Tryz.lays166 Tryz.Builder_Extra_166 B b bs s w h hlen hBw
end Go.Proofs
