import Derived.Shelf.Small.Bits
import Derived.Shelf.Small.Wraps
import Derived.Shelf.Strconv.Atoi
import Derived.Shelf.LaysM
import Derived.Shelf.Strconv.Itoa3
import Derived.Shelf.Strings.Cut
import Derived.Shelf.Strings.Prefix
import Derived.Shelf.Bits.Mul64
import Derived.Shelf.Strings.Repeat
import Derived.Shelf.Strings.SlTrimAscii
import Derived.Shelf.Spec.BitsCarry
import Derived.Shelf.Strings.Builder1
import Derived.Test.YtjemkccfpkgopaaGreatDoorProg
set_option linter.all false
set_option maxRecDepth 100000
open Go renaming Calls→xT,World→yi
open Go.Proofs.Lays renaming n101→ybt,n103→ybm,n105→ybv,n129→ybo,n134→ybl,n145→ybr,n160→ybk,n166→ybw,n169→ybj,n172→ybn,n264→ybu,n283→ybp,n285→ybq,n99→ybs
open Go.Proofs.Lays7 renaming n25→yaY,n26→yaZ
open Go.Proofs.LaysM renaming n145→yaX,n171→yaW,n284→yaV
open Go.Shelf renaming Ren→xI
namespace Go.Proofs
open Go.Shelf
def Tryz.abE:xI:=⟨fun | 169=>206 | n=>n,fun | 70=>223 | 9=>9 | 0=>0 | 72=>226 | 37=>224 | 127=>244 | 3=>3 | 5=>5 | n=>n,fun | n=>n⟩
def Tryz.atV:ybj Tryz.prog Tryz.abE:=by
 repeat' first | kernel_rfl | (intro w;kernel_rfl) | decide | constructor
def Tryz.anS:Builder.Extra Tryz.prog Tryz.abE:=by
 repeat' first | kernel_rfl | (intro w;kernel_rfl) | decide | constructor
open Go.RowKit in
def Tryz.Builder_String_any (B b:Nat) (l:List UInt8) (w:yi) (h:Lib.IsBuilder 226 5 B b (Lib.byteCells l) w) (Z0:B<=w.heap.size):
  xT Tryz.prog 206 #[.pointer (some ⟨b,0,none⟩)] w fun e w'=>e= .returned (.string ⟨l.toArray⟩)/\Below B w w':=Any.Builder_String_any Tryz.atV Tryz.anS B b l w h Z0
def Tryz.aot:xI:=⟨fun | 160=>192 | 232=>216 | 231=>215 | 227=>217 | 234=>219 | 233=>218 | 236=>221 | 235=>220 | 228=>242 | 271=>245 | 151=>244 | 197=>243 | 120=>261 | 152=>260 | 260=>259 | 137=>269 | 119=>270 | 224=>235 | 225=>234 | 217=>233 | 266=>254 | n=>n,fun | 9=>9 | 4=>4 | 3=>3 | 5=>5 | 117=>234 | 116=>233 | 0=>0 | 124=>237 | 21=>21 | 105=>254 | 46=>210 | 119=>285 | 139=>288 | 138=>287 | n=>n,fun | 3=>7 | 4=>8 | n=>n⟩
def Tryz.atW:ybk Tryz.prog Tryz.aot:=by
 repeat' first | kernel_rfl | (intro w;kernel_rfl) | decide | constructor
def Tryz.aou:xI:=⟨fun | 134=>223 | 129=>167 | n=>n,fun | 53=>185 | 3=>3 | 4=>4 | 46=>210 | 5=>5 | 9=>9 | n=>n,fun | n=>n⟩
def Tryz.atX:ybl Tryz.prog Tryz.aou:=by
 repeat' first | kernel_rfl | (intro w;kernel_rfl) | decide | constructor
def Tryz.bits_LeadingZeros64 (x:Int) (w:yi) (h0:0<=x) (h1:x<=18446744073709551615):
  xT Tryz.prog 223 #[.int .u64 x] w fun e w'=>e= .returned (.int .i64 (64-(Lib.bitLen x.toNat:Int)))/\w'=w:=Any.bits_LeadingZeros64 Tryz.atX x w h0 h1
def Tryz.aov:xI:=⟨fun | 103=>154 | 210=>191 | 206=>211 | n=>n,fun | 9=>9 | 4=>4 | 24=>169 | 3=>3 | n=>n,fun | n=>n⟩
def Tryz.atY:ybm Tryz.prog Tryz.aov:=by
 repeat' first | kernel_rfl | (intro w;kernel_rfl) | decide | constructor
open Go.RowKit in
def Tryz.strings_CutPrefix (s p:ByteArray) (w:yi):
  xT Tryz.prog 154 #[.string s,.string p] w fun e w'=>e= .returned (.tuple #[.string ⟨(Lib.trimPrefix s.data.toList p.data.toList).toArray⟩,.bool (Lib.hasPrefix s.data.toList p.data.toList)])/\w'=w:=Any.strings_CutPrefix Tryz.atY s p w
def Tryz.aow:xI:=⟨fun | 172=>184 | 244=>213 | 245=>214 | 247=>237 | 279=>238 | 280=>239 | 281=>240 | 282=>241 | 287=>256 | 316=>257 | 171=>202 | 205=>258 | 321=>267 | 322=>268 | 243=>227 | 246=>246 | 283=>247 | 284=>248 | 285=>249 | 286=>250 | 129=>167 | 317=>262 | 318=>263 | 319=>264 | 320=>265 | 337=>271 | 338=>272 | n=>n,fun | 9=>9 | 3=>3 | 75=>199 | 76=>200 | 4=>4 | 5=>5 | 167=>247 | 37=>224 | 0=>0 | 85=>248 | 2=>2 | 168=>250 | 53=>185 | 175=>268 | 46=>210 | 210=>272 | 127=>244 | 145=>284 | 143=>282 | 21=>21 | 171=>258 | 173=>260 | 212=>276 | 51=>262 | 20=>20 | 213=>277 | 232=>291 | 233=>292 | 80=>188 | n=>n,fun | 15=>4 | 16=>5 | 17=>6 | 18=>9 | 19=>10 | n=>n⟩
def Tryz.atZ:ybn Tryz.prog Tryz.aow:=by
 repeat' first | kernel_rfl | (intro w;kernel_rfl) | decide | constructor
open Go.RowKit in
def Tryz.strconv_Atoi (s:ByteArray) (n:Int) (hl:s.size<=18) (h:Lib.atoi s.data.toList=some n) (w:yi):
  xT Tryz.prog 184 #[.string s] w fun e w'=>e= .returned (.tuple #[.int .i64 n,.nilIface])/\∃t,w'=Lib.bytesWorld w 5 t:=Any.strconv_Atoi Tryz.atZ s n hl h w
def Tryz.aox:xI:=⟨fun | 129=>167 | n=>n,fun | 53=>185 | 3=>3 | 4=>4 | 46=>210 | 5=>5 | 9=>9 | n=>n,fun | n=>n⟩
def Tryz.at0:ybo Tryz.prog Tryz.aox:=by
 repeat' first | kernel_rfl | (intro w;kernel_rfl) | decide | constructor
def Tryz.bits_Len64 (x:Int) (w:yi) (h0:0<=x) (h1:x<=18446744073709551615):
  xT Tryz.prog 167 #[.int .u64 x] w fun e w'=>e= .returned (.int .i64 (Lib.bitLen x.toNat))/\w'=w:=Any.bits_Len64 Tryz.at0 x w h0 h1
def Tryz.aoy:xI:=⟨fun | 283=>247 | n=>n,fun | 3=>3 | 9=>9 | 4=>4 | n=>n,fun | n=>n⟩
def Tryz.at1:ybp Tryz.prog Tryz.aoy:=by
 repeat' first | kernel_rfl | (intro w;kernel_rfl) | decide | constructor
open Go.Lib in
def Tryz.internal_strconv_small (i:Nat) (h:i<100) (w:yi):
  xT Tryz.prog 247 #[.int .i64 i] w fun e w'=>e= .returned (.string ⟨(Lib.decDigits i).toArray⟩)/\w'=w:=Any.internal_strconv_small Tryz.at1 i h w
def Tryz.aob:xI:=⟨fun | 284=>248 | 129=>167 | 317=>262 | 318=>263 | n=>n,fun | 53=>185 | 3=>3 | 212=>276 | 0=>0 | 4=>4 | 46=>210 | 5=>5 | 9=>9 | n=>n,fun | 17=>6 | n=>n⟩
def Tryz.ar4:yaV Tryz.prog Tryz.aob:=by
 repeat' first | kernel_rfl | (intro w;kernel_rfl) | decide | constructor
open Go.Lib in
def Tryz.internal_strconv_numDigits (u:Nat) (h1:1<=u) (h2:u<18446744073709551616) (w:yi) (Dv:Lib.TabIs Tryz.prog w "internal/strconv.uint64pow10" .u64 Lib.pow10Tab):
  xT Tryz.prog 248 #[.int .u64 u] w fun e w'=>e= .returned (.int .i64 (Lib.nDigits u))/\w'=w:=Any.internal_strconv_numDigits Tryz.ar4 u h1 h2 w Dv
def Tryz.aoz:xI:=⟨fun | 285=>249 | n=>n,fun | 37=>224 | 53=>185 | 3=>3 | 4=>4 | 51=>262 | 9=>9 | 5=>5 | 0=>0 | n=>n,fun | n=>n⟩
def Tryz.at2:ybq Tryz.prog Tryz.aoz:=by
 repeat' first | kernel_rfl | (intro w;kernel_rfl) | decide | constructor
open Go.RowKit Go.Sort Go.Lib in
def Tryz.internal_strconv_formatBase10 (aG off cap:Nat) (u:Nat) (d:Array UInt8) (w:yi) (hH:Holds (fun (b:UInt8)=>Value.int .u8 (b.toNat:Int)) w aG off d) (hu:u<10^d.size) (Dw:u<18446744073709551616) (eV:d.size<4611686018427387904):
  xT Tryz.prog 249 #[.slice (some ⟨aG,off,none⟩) d.size cap,.int .u64 u] w fun e w'=>
   e= .returned (.tuple #[])/\∃(n v':Nat) (dk:Array UInt8),w'=(putRow (fun (b:UInt8)=>Value.int .u8 (b.toNat:Int)) w aG off dk).drewN n/\FmtInv d.size u 0 v' dk:=Any.internal_strconv_formatBase10 Tryz.at2 aG off cap u d w hH hu Dw eV
def Tryz.aoc:xI:=⟨fun | 171=>202 | 243=>227 | 246=>246 | 283=>247 | 284=>248 | 285=>249 | 286=>250 | 129=>167 | 317=>262 | 318=>263 | 319=>264 | 320=>265 | 337=>271 | 338=>272 | n=>n,fun | 3=>3 | 9=>9 | 2=>2 | 4=>4 | 171=>258 | 0=>0 | 53=>185 | 37=>224 | 5=>5 | 173=>260 | 212=>276 | 51=>262 | 20=>20 | 213=>277 | 46=>210 | 232=>291 | 233=>292 | n=>n,fun | 17=>6 | 18=>9 | 19=>10 | n=>n⟩
def Tryz.ar5:yaW Tryz.prog Tryz.aoc:=by
 repeat' first | kernel_rfl | (intro w;kernel_rfl) | decide | constructor
open Go.RowKit Go.Sort Go.Lib in
def Tryz.strconv_Itoa (n:Int) (h0: -9223372036854775808<=n) (h1:n<=9223372036854775807) (w:yi) (Dv:Lib.TabIs Tryz.prog w "internal/strconv.uint64pow10" .u64 Lib.pow10Tab):
  xT Tryz.prog 202 #[.int .i64 n] w fun e w'=>e= .returned (.string ⟨(Lib.itoa n).toArray⟩)/\∃k os,w'=grow (w.drewN k) os:=Any.strconv_Itoa Tryz.ar5 n h0 h1 w Dv
def Tryz.aoA:xI:=⟨fun | 145=>129 | 220=>181 | 219=>210 | 217=>233 | 225=>234 | 224=>235 | 267=>236 | 266=>254 | 314=>255 | n=>n,fun | 9=>9 | 4=>4 | 59=>152 | 3=>3 | 5=>5 | 46=>210 | 146=>263 | 51=>262 | n=>n,fun | 1=>1 | n=>n⟩
def Tryz.at3:ybr Tryz.prog Tryz.aoA:=by
 repeat' first | kernel_rfl | (intro w;kernel_rfl) | decide | constructor
open Go.RowKit Go.Lib in
def Tryz.strings_Cut (s sep:ByteArray) (m:Int) (w:yi) (hs:s.size<4294967281) (hm:w.cell? ⟨1,0,none⟩=some (.int .i64 m)):
  xT Tryz.prog 129 #[.string s,.string sep] w fun e w'=>e= .returned (.tuple #[.string ⟨(Lib.cut s.data.toList sep.data.toList).1.toArray⟩,.string ⟨(Lib.cut s.data.toList sep.data.toList).2.1.toArray⟩,.bool (Lib.cut s.data.toList sep.data.toList).2.2])/\∃n,w'=w.drewN n:=Any.strings_Cut Tryz.at3 s sep m w hs hm
def Tryz.aod:xI:=⟨fun | 145=>129 | 220=>181 | 219=>210 | 217=>233 | 225=>234 | 224=>235 | 267=>236 | 266=>254 | 314=>255 | n=>n,fun | 9=>9 | 4=>4 | 59=>152 | 3=>3 | 5=>5 | 46=>210 | 146=>263 | 51=>262 | n=>n,fun | 1=>1 | n=>n⟩
def Tryz.ar6:yaX Tryz.prog Tryz.aod:=by
 repeat' first | kernel_rfl | (intro w;kernel_rfl) | exact fun w h=>Go.Proofs.cell_of_shapedOpen_int (zero:=#[.int .i64 0]) (t:=3) h (of_decide_eq_true (by kernel_rfl)) (by kernel_rfl) rfl (by kernel_rfl) (by kernel_rfl) Tryz.underlying3 | decide | constructor
def Tryz.ao7:xI:=⟨fun | 99=>182 | 206=>211 | n=>n,fun | 9=>9 | 4=>4 | 3=>3 | n=>n,fun | n=>n⟩
def Tryz.av5:ybs Tryz.prog Tryz.ao7:=by
 repeat' first | kernel_rfl | (intro w;kernel_rfl) | decide | constructor
open Go.RowKit Go.Lib in
def Tryz.strings_HasPrefix (s p:ByteArray) (w:yi):
  xT Tryz.prog 182 #[.string s,.string p] w fun e w'=>e= .returned (.bool (Lib.hasPrefix s.data.toList p.data.toList))/\w'=w:=Any.strings_HasPrefix Tryz.av5 s p w
def Tryz.aoB:xI:=⟨fun | 101=>183 | 208=>212 | 206=>211 | n=>n,fun | 9=>9 | 4=>4 | 3=>3 | n=>n,fun | n=>n⟩
def Tryz.at4:ybt Tryz.prog Tryz.aoB:=by
 repeat' first | kernel_rfl | (intro w;kernel_rfl) | decide | constructor
open Go.RowKit Go.Lib in
def Tryz.strings_TrimPrefix (s p:ByteArray) (w:yi):
  xT Tryz.prog 183 #[.string s,.string p] w fun e w'=>e= .returned (.string ⟨(Lib.trimPrefix s.data.toList p.data.toList).toArray⟩)/\w'=w:=Any.strings_TrimPrefix Tryz.at4 s p w
def Tryz.aoC:xI:=⟨fun | 264=>178 | n=>n,fun | 53=>185 | 46=>210 | n=>n,fun | n=>n⟩
def Tryz.at5:ybu Tryz.prog Tryz.aoC:=by
 repeat' first | kernel_rfl | (intro w;kernel_rfl) | decide | constructor
open Go.RowKit Go.Lib in
def Tryz.bits_Mul64 (x y:Nat) (hx:x<18446744073709551616) (hy:y<18446744073709551616) (w:yi):
  xT Tryz.prog 178 #[.int .u64 x,.int .u64 y] w fun e w'=>e= .returned (.tuple #[.int .u64 ((x*y/18446744073709551616:Nat):Int),.int .u64 ((x*y%18446744073709551616:Nat):Int)])/\w'=w:=Any.bits_Mul64 Tryz.at5 x y hx hy w
def Tryz.abF:xI:=⟨fun | 105=>204 | 212=>229 | 99=>182 | 165=>230 | 166=>205 | 170=>231 | 169=>206 | 263=>251 | 264=>178 | 206=>211 | 240=>232 | 241=>252 | 276=>253 | 277=>266 | n=>n,fun | 9=>9 | 3=>3 | 4=>4 | 20=>20 | 0=>0 | 46=>210 | 109=>241 | 5=>5 | 72=>226 | 76=>200 | 51=>262 | 146=>263 | 53=>185 | 148=>193 | 70=>223 | 37=>224 | 75=>199 | 127=>244 | 164=>265 | 80=>188 | n=>n,fun | n=>n⟩
def Tryz.at6:ybv Tryz.prog Tryz.abF:=by
 repeat' first | kernel_rfl | (intro w;kernel_rfl) | decide | constructor
def Tryz.anT:Builder.Extra Tryz.prog Tryz.abF:=by
 repeat' first | kernel_rfl | (intro w;kernel_rfl) | decide | constructor
open Go.RowKit Go.Lib in
def Tryz.strings_Repeat (s:ByteArray) (c:Nat) (w:yi) (hc:c<=9223372036854775807) (hlen:s.size*c<=140737488355328):
  xT Tryz.prog 204 #[.string s,.int .i64 c] w fun e w'=>e= .returned (.string ⟨(Lib.repeatL s.data.toList c).toArray⟩)/\Below w.heap.size w w':=Any.strings_Repeat Tryz.at6 Tryz.anT s c w hc hlen
def Tryz.aoe:xI:=⟨fun | 25=>207 | n=>n,fun | 22=>185 | n=>n,fun | n=>n⟩
def Tryz.ar7:yaY Tryz.prog Tryz.aoe:=by
 repeat' first | kernel_rfl | (intro w;kernel_rfl) | decide | constructor
def Tryz.aof:xI:=⟨fun | 26=>209 | n=>n,fun | 22=>185 | n=>n,fun | n=>n⟩
def Tryz.ar8:yaZ Tryz.prog Tryz.aof:=by
 repeat' first | kernel_rfl | (intro w;kernel_rfl) | decide | constructor
def Tryz.bits_Add64 (x y c:Nat) (hc:c<=1) (w:yi):
  (callFunc 207 #[.int .u64 x,.int .u64 y,.int .u64 c]).run Tryz.prog w=
   .ok (.value (.tuple #[.int .u64 (((x+y+c)%18446744073709551616:Nat):Int),.int .u64 (((x+y+c)/18446744073709551616:Nat):Int)])) w:=Any7.bits_Add64 Tryz.ar7 x y c hc w
def Tryz.bits_Sub64 (x y b:Nat) (hb:b<=1) (w:yi):
  (callFunc 209 #[.int .u64 x,.int .u64 y,.int .u64 b]).run Tryz.prog w=
   .ok (.value (.tuple #[.int .u64 (((x+18446744073709551616-y-b)%18446744073709551616:Nat):Int),.int .u64 ((if x<y+b then 1 else 0:Nat):Int)])) w:=Any7.bits_Sub64 Tryz.ar8 x y b hb w
open Go.RowKit in
def Tryz.aog (s I6:ByteArray) (w:yi) (hs:s.size<=9223372036854775807) (jQ:I6.size<4294967281) (av6:∀(j:Nat) b,I6.data.toList[j]? =some b->b.toNat<128):
  xT Tryz.prog 192 #[.string s,.string I6] w fun e w'=>e= .returned (.string ⟨(Lib.trimS s.data.toList I6.data.toList).toArray⟩)/\Below w.heap.size w w':=
 Any.strings_Trim_laid Tryz.atW (by kernel_rfl) s I6 w hs jQ av6
def Tryz.s1_3 (w:yi) (h:w.ShapedOpen Tryz.prog):∃m,w.cell? ⟨1,0,none⟩=some (.int .i64 m):=Tryz.ar6.s1_3 w h
def Tryz.abG:xI:=⟨fun | 166=>205 | 240=>232 | 276=>253 | n=>n,fun | 20=>20 | 37=>224 | 70=>223 | 72=>226 | 75=>199 | 80=>188 | 164=>265 | n=>n,fun | n=>n⟩
def Tryz.at7:ybw Tryz.prog Tryz.abG:=by
 repeat' first | kernel_rfl | (intro w;kernel_rfl) | decide | constructor
def Tryz.anU:Builder.Extra Tryz.prog Tryz.abG:=by
 repeat' first | kernel_rfl | (intro w;kernel_rfl) | decide | constructor
open Go.RowKit in
def Tryz.Builder_WriteString (B b:Nat) (bs:List Value) (s:ByteArray) (w:yi) (h:Lib.IsBuilder 226 5 B b bs w) (hlen:bs.length+s.size<=140737488355328) (Z0:B<=w.heap.size):
  xT Tryz.prog 205 #[.pointer (some ⟨b,0,none⟩),.string s] w fun e w'=>e= .returned (.tuple #[.int .i64 s.size,.nilIface])/\(Lib.BuilderAt 226 5 B b (.pointer (some ⟨b,0,none⟩)) (bs++Lib.strCells s) w'/\Below B w w'):=Any.Builder_WriteString Tryz.at7 Tryz.anU B b bs s w h hlen Z0
end Go.Proofs
