import Derived.Shelf.Small.Bits
import Derived.Shelf.Small.Wraps
import Derived.Shelf.Strconv.Atoi
import Derived.Shelf.LaysM
import Derived.Shelf.Strconv.Itoa3
import Derived.Shelf.Strings.Cut
import Derived.Shelf.Strings.Prefix
import Derived.Shelf.Bits.Mul64
import Derived.Shelf.Strings.Repeat
import Derived.Shelf.Strings.SlTrimAscii
import Derived.Shelf.Spec.BitsCarry
import Derived.Shelf.Strings.Builder1
import Derived.Test.YtjemkccfpkgopaaGreatDoorProg
set_option linter.all false
set_option maxRecDepth 100000
open Go renaming Calls→xV,World→yi
open Go.Proofs.Lays renaming n101→yby,n103→ybr,n105→ybA,n129→ybt,n134→ybq,n145→ybw,n160→ybp,n166→ybB,n169→ybo,n172→ybs,n264→ybz,n283→ybu,n285→ybv,n99→ybx
open Go.Proofs.Lays7 renaming n25→ybe,n26→ybf
open Go.Proofs.LaysM renaming n145→ybd,n171→ybc,n284→ybb
open Go.Shelf renaming Ren→xK
namespace Go.Proofs
open Go.Shelf
def Tryz.abk:xK:=⟨fun | 169=>206 | n=>n,fun | 70=>223 | 9=>9 | 0=>0 | 72=>226 | 37=>224 | 127=>244 | 3=>3 | 5=>5 | n=>n,fun | n=>n⟩
def Tryz.atL:ybo Tryz.prog Tryz.abk:=by
 repeat' first | kernel_rfl | (intro w;kernel_rfl) | decide | constructor
def Tryz.anK:Builder.Extra Tryz.prog Tryz.abk:=by
 repeat' first | kernel_rfl | (intro w;kernel_rfl) | decide | constructor
open Go.RowKit in
def Tryz.Builder_String_any (B b:Nat) (l:List UInt8) (w:yi) (h:Lib.IsBuilder 226 5 B b (Lib.byteCells l) w) (ZL:B<=w.heap.size):
  xV Tryz.prog 206 #[.pointer (some ⟨b,0,none⟩)] w fun e w'=>e= .returned (.string ⟨l.toArray⟩)/\Below B w w':=Any.Builder_String_any Tryz.atL Tryz.anK B b l w h ZL
def Tryz.aok:xK:=⟨fun | 160=>192 | 232=>216 | 231=>215 | 227=>217 | 234=>219 | 233=>218 | 236=>221 | 235=>220 | 228=>242 | 271=>245 | 151=>244 | 197=>243 | 120=>261 | 152=>260 | 260=>259 | 137=>269 | 119=>270 | 224=>235 | 225=>234 | 217=>233 | 266=>254 | n=>n,fun | 9=>9 | 4=>4 | 3=>3 | 5=>5 | 117=>234 | 116=>233 | 0=>0 | 124=>237 | 21=>21 | 105=>254 | 46=>210 | 119=>285 | 139=>288 | 138=>287 | n=>n,fun | 3=>7 | 4=>8 | n=>n⟩
def Tryz.atM:ybp Tryz.prog Tryz.aok:=by
 repeat' first | kernel_rfl | (intro w;kernel_rfl) | decide | constructor
def Tryz.aol:xK:=⟨fun | 134=>223 | 129=>167 | n=>n,fun | 53=>185 | 3=>3 | 4=>4 | 46=>210 | 5=>5 | 9=>9 | n=>n,fun | n=>n⟩
def Tryz.atN:ybq Tryz.prog Tryz.aol:=by
 repeat' first | kernel_rfl | (intro w;kernel_rfl) | decide | constructor
def Tryz.bits_LeadingZeros64 (x:Int) (w:yi) (h0:0<=x) (h1:x<=18446744073709551615):
  xV Tryz.prog 223 #[.int .u64 x] w fun e w'=>e= .returned (.int .i64 (64-(Lib.bitLen x.toNat:Int)))/\w'=w:=Any.bits_LeadingZeros64 Tryz.atN x w h0 h1
def Tryz.aom:xK:=⟨fun | 103=>154 | 210=>191 | 206=>211 | n=>n,fun | 9=>9 | 4=>4 | 24=>169 | 3=>3 | n=>n,fun | n=>n⟩
def Tryz.atO:ybr Tryz.prog Tryz.aom:=by
 repeat' first | kernel_rfl | (intro w;kernel_rfl) | decide | constructor
open Go.RowKit in
def Tryz.strings_CutPrefix (s p:ByteArray) (w:yi):
  xV Tryz.prog 154 #[.string s,.string p] w fun e w'=>e= .returned (.tuple #[.string ⟨(Lib.trimPrefix s.data.toList p.data.toList).toArray⟩,.bool (Lib.hasPrefix s.data.toList p.data.toList)])/\w'=w:=Any.strings_CutPrefix Tryz.atO s p w
def Tryz.aon:xK:=⟨fun | 172=>184 | 244=>213 | 245=>214 | 247=>237 | 279=>238 | 280=>239 | 281=>240 | 282=>241 | 287=>256 | 316=>257 | 171=>202 | 205=>258 | 321=>267 | 322=>268 | 243=>227 | 246=>246 | 283=>247 | 284=>248 | 285=>249 | 286=>250 | 129=>167 | 317=>262 | 318=>263 | 319=>264 | 320=>265 | 337=>271 | 338=>272 | n=>n,fun | 9=>9 | 3=>3 | 75=>199 | 76=>200 | 4=>4 | 5=>5 | 167=>247 | 37=>224 | 0=>0 | 85=>248 | 2=>2 | 168=>250 | 53=>185 | 175=>268 | 46=>210 | 210=>272 | 127=>244 | 145=>284 | 143=>282 | 21=>21 | 171=>258 | 173=>260 | 212=>276 | 51=>262 | 20=>20 | 213=>277 | 232=>291 | 233=>292 | 80=>188 | n=>n,fun | 15=>4 | 16=>5 | 17=>6 | 18=>9 | 19=>10 | n=>n⟩
def Tryz.atP:ybs Tryz.prog Tryz.aon:=by
 repeat' first | kernel_rfl | (intro w;kernel_rfl) | decide | constructor
open Go.RowKit in
def Tryz.strconv_Atoi (s:ByteArray) (n:Int) (hl:s.size<=18) (h:Lib.atoi s.data.toList=some n) (w:yi):
  xV Tryz.prog 184 #[.string s] w fun e w'=>e= .returned (.tuple #[.int .i64 n,.nilIface])/\∃t,w'=Lib.bytesWorld w 5 t:=Any.strconv_Atoi Tryz.atP s n hl h w
def Tryz.aoo:xK:=⟨fun | 129=>167 | n=>n,fun | 53=>185 | 3=>3 | 4=>4 | 46=>210 | 5=>5 | 9=>9 | n=>n,fun | n=>n⟩
def Tryz.atQ:ybt Tryz.prog Tryz.aoo:=by
 repeat' first | kernel_rfl | (intro w;kernel_rfl) | decide | constructor
def Tryz.bits_Len64 (x:Int) (w:yi) (h0:0<=x) (h1:x<=18446744073709551615):
  xV Tryz.prog 167 #[.int .u64 x] w fun e w'=>e= .returned (.int .i64 (Lib.bitLen x.toNat))/\w'=w:=Any.bits_Len64 Tryz.atQ x w h0 h1
def Tryz.aop:xK:=⟨fun | 283=>247 | n=>n,fun | 3=>3 | 9=>9 | 4=>4 | n=>n,fun | n=>n⟩
def Tryz.atS:ybu Tryz.prog Tryz.aop:=by
 repeat' first | kernel_rfl | (intro w;kernel_rfl) | decide | constructor
open Go.Lib in
def Tryz.internal_strconv_small (i:Nat) (h:i<100) (w:yi):
  xV Tryz.prog 247 #[.int .i64 i] w fun e w'=>e= .returned (.string ⟨(Lib.decDigits i).toArray⟩)/\w'=w:=Any.internal_strconv_small Tryz.atS i h w
def Tryz.an3:xK:=⟨fun | 284=>248 | 129=>167 | 317=>262 | 318=>263 | n=>n,fun | 53=>185 | 3=>3 | 212=>276 | 0=>0 | 4=>4 | 46=>210 | 5=>5 | 9=>9 | n=>n,fun | 17=>6 | n=>n⟩
def Tryz.arY:ybb Tryz.prog Tryz.an3:=by
 repeat' first | kernel_rfl | (intro w;kernel_rfl) | decide | constructor
open Go.Lib in
def Tryz.internal_strconv_numDigits (u:Nat) (h1:1<=u) (h2:u<18446744073709551616) (w:yi) (Dj:Lib.TabIs Tryz.prog w "internal/strconv.uint64pow10" .u64 Lib.pow10Tab):
  xV Tryz.prog 248 #[.int .u64 u] w fun e w'=>e= .returned (.int .i64 (Lib.nDigits u))/\w'=w:=Any.internal_strconv_numDigits Tryz.arY u h1 h2 w Dj
def Tryz.aoq:xK:=⟨fun | 285=>249 | n=>n,fun | 37=>224 | 53=>185 | 3=>3 | 4=>4 | 51=>262 | 9=>9 | 5=>5 | 0=>0 | n=>n,fun | n=>n⟩
def Tryz.atT:ybv Tryz.prog Tryz.aoq:=by
 repeat' first | kernel_rfl | (intro w;kernel_rfl) | decide | constructor
open Go.RowKit Go.Sort Go.Lib in
def Tryz.internal_strconv_formatBase10 (aF off cap:Nat) (u:Nat) (d:Array UInt8) (w:yi) (hH:Holds (fun (b:UInt8)=>Value.int .u8 (b.toNat:Int)) w aF off d) (hu:u<10^d.size) (Dk:u<18446744073709551616) (eT:d.size<4611686018427387904):
  xV Tryz.prog 249 #[.slice (some ⟨aF,off,none⟩) d.size cap,.int .u64 u] w fun e w'=>
   e= .returned (.tuple #[])/\∃(n v':Nat) (dk:Array UInt8),w'=(putRow (fun (b:UInt8)=>Value.int .u8 (b.toNat:Int)) w aF off dk).drewN n/\FmtInv d.size u 0 v' dk:=Any.internal_strconv_formatBase10 Tryz.atT aF off cap u d w hH hu Dk eT
def Tryz.an4:xK:=⟨fun | 171=>202 | 243=>227 | 246=>246 | 283=>247 | 284=>248 | 285=>249 | 286=>250 | 129=>167 | 317=>262 | 318=>263 | 319=>264 | 320=>265 | 337=>271 | 338=>272 | n=>n,fun | 3=>3 | 9=>9 | 2=>2 | 4=>4 | 171=>258 | 0=>0 | 53=>185 | 37=>224 | 5=>5 | 173=>260 | 212=>276 | 51=>262 | 20=>20 | 213=>277 | 46=>210 | 232=>291 | 233=>292 | n=>n,fun | 17=>6 | 18=>9 | 19=>10 | n=>n⟩
def Tryz.arZ:ybc Tryz.prog Tryz.an4:=by
 repeat' first | kernel_rfl | (intro w;kernel_rfl) | decide | constructor
open Go.RowKit Go.Sort Go.Lib in
def Tryz.strconv_Itoa (n:Int) (h0: -9223372036854775808<=n) (h1:n<=9223372036854775807) (w:yi) (Dj:Lib.TabIs Tryz.prog w "internal/strconv.uint64pow10" .u64 Lib.pow10Tab):
  xV Tryz.prog 202 #[.int .i64 n] w fun e w'=>e= .returned (.string ⟨(Lib.itoa n).toArray⟩)/\∃k os,w'=grow (w.drewN k) os:=Any.strconv_Itoa Tryz.arZ n h0 h1 w Dj
def Tryz.aor:xK:=⟨fun | 145=>129 | 220=>181 | 219=>210 | 217=>233 | 225=>234 | 224=>235 | 267=>236 | 266=>254 | 314=>255 | n=>n,fun | 9=>9 | 4=>4 | 59=>152 | 3=>3 | 5=>5 | 46=>210 | 146=>263 | 51=>262 | n=>n,fun | 1=>1 | n=>n⟩
def Tryz.atU:ybw Tryz.prog Tryz.aor:=by
 repeat' first | kernel_rfl | (intro w;kernel_rfl) | decide | constructor
open Go.RowKit Go.Lib in
def Tryz.strings_Cut (s sep:ByteArray) (m:Int) (w:yi) (hs:s.size<4294967281) (hm:w.cell? ⟨1,0,none⟩=some (.int .i64 m)):
  xV Tryz.prog 129 #[.string s,.string sep] w fun e w'=>e= .returned (.tuple #[.string ⟨(Lib.cut s.data.toList sep.data.toList).1.toArray⟩,.string ⟨(Lib.cut s.data.toList sep.data.toList).2.1.toArray⟩,.bool (Lib.cut s.data.toList sep.data.toList).2.2])/\∃n,w'=w.drewN n:=Any.strings_Cut Tryz.atU s sep m w hs hm
def Tryz.an5:xK:=⟨fun | 145=>129 | 220=>181 | 219=>210 | 217=>233 | 225=>234 | 224=>235 | 267=>236 | 266=>254 | 314=>255 | n=>n,fun | 9=>9 | 4=>4 | 59=>152 | 3=>3 | 5=>5 | 46=>210 | 146=>263 | 51=>262 | n=>n,fun | 1=>1 | n=>n⟩
def Tryz.ar0:ybd Tryz.prog Tryz.an5:=by
 repeat' first | kernel_rfl | (intro w;kernel_rfl) | exact fun w h=>Go.Proofs.cell_of_shapedOpen_int (zero:=#[.int .i64 0]) (t:=3) h (of_decide_eq_true (by kernel_rfl)) (by kernel_rfl) rfl (by kernel_rfl) (by kernel_rfl) Tryz.underlying3 | decide | constructor
def Tryz.aoZ:xK:=⟨fun | 99=>182 | 206=>211 | n=>n,fun | 9=>9 | 4=>4 | 3=>3 | n=>n,fun | n=>n⟩
def Tryz.av9:ybx Tryz.prog Tryz.aoZ:=by
 repeat' first | kernel_rfl | (intro w;kernel_rfl) | decide | constructor
open Go.RowKit Go.Lib in
def Tryz.strings_HasPrefix (s p:ByteArray) (w:yi):
  xV Tryz.prog 182 #[.string s,.string p] w fun e w'=>e= .returned (.bool (Lib.hasPrefix s.data.toList p.data.toList))/\w'=w:=Any.strings_HasPrefix Tryz.av9 s p w
def Tryz.aos:xK:=⟨fun | 101=>183 | 208=>212 | 206=>211 | n=>n,fun | 9=>9 | 4=>4 | 3=>3 | n=>n,fun | n=>n⟩
def Tryz.atV:yby Tryz.prog Tryz.aos:=by
 repeat' first | kernel_rfl | (intro w;kernel_rfl) | decide | constructor
open Go.RowKit Go.Lib in
def Tryz.strings_TrimPrefix (s p:ByteArray) (w:yi):
  xV Tryz.prog 183 #[.string s,.string p] w fun e w'=>e= .returned (.string ⟨(Lib.trimPrefix s.data.toList p.data.toList).toArray⟩)/\w'=w:=Any.strings_TrimPrefix Tryz.atV s p w
def Tryz.aot:xK:=⟨fun | 264=>178 | n=>n,fun | 53=>185 | 46=>210 | n=>n,fun | n=>n⟩
def Tryz.atW:ybz Tryz.prog Tryz.aot:=by
 repeat' first | kernel_rfl | (intro w;kernel_rfl) | decide | constructor
open Go.RowKit Go.Lib in
def Tryz.bits_Mul64 (x y:Nat) (hx:x<18446744073709551616) (hy:y<18446744073709551616) (w:yi):
  xV Tryz.prog 178 #[.int .u64 x,.int .u64 y] w fun e w'=>e= .returned (.tuple #[.int .u64 ((x*y/18446744073709551616:Nat):Int),.int .u64 ((x*y%18446744073709551616:Nat):Int)])/\w'=w:=Any.bits_Mul64 Tryz.atW x y hx hy w
def Tryz.abl:xK:=⟨fun | 105=>204 | 212=>229 | 99=>182 | 165=>230 | 166=>205 | 170=>231 | 169=>206 | 263=>251 | 264=>178 | 206=>211 | 240=>232 | 241=>252 | 276=>253 | 277=>266 | n=>n,fun | 9=>9 | 3=>3 | 4=>4 | 20=>20 | 0=>0 | 46=>210 | 109=>241 | 5=>5 | 72=>226 | 76=>200 | 51=>262 | 146=>263 | 53=>185 | 148=>193 | 70=>223 | 37=>224 | 75=>199 | 127=>244 | 164=>265 | 80=>188 | n=>n,fun | n=>n⟩
def Tryz.atX:ybA Tryz.prog Tryz.abl:=by
 repeat' first | kernel_rfl | (intro w;kernel_rfl) | decide | constructor
def Tryz.anL:Builder.Extra Tryz.prog Tryz.abl:=by
 repeat' first | kernel_rfl | (intro w;kernel_rfl) | decide | constructor
open Go.RowKit Go.Lib in
def Tryz.strings_Repeat (s:ByteArray) (c:Nat) (w:yi) (hc:c<=9223372036854775807) (hlen:s.size*c<=140737488355328):
  xV Tryz.prog 204 #[.string s,.int .i64 c] w fun e w'=>e= .returned (.string ⟨(Lib.repeatL s.data.toList c).toArray⟩)/\Below w.heap.size w w':=Any.strings_Repeat Tryz.atX Tryz.anL s c w hc hlen
def Tryz.an6:xK:=⟨fun | 25=>207 | n=>n,fun | 22=>185 | n=>n,fun | n=>n⟩
def Tryz.ar1:ybe Tryz.prog Tryz.an6:=by
 repeat' first | kernel_rfl | (intro w;kernel_rfl) | decide | constructor
def Tryz.an7:xK:=⟨fun | 26=>209 | n=>n,fun | 22=>185 | n=>n,fun | n=>n⟩
def Tryz.ar2:ybf Tryz.prog Tryz.an7:=by
 repeat' first | kernel_rfl | (intro w;kernel_rfl) | decide | constructor
def Tryz.bits_Add64 (x y c:Nat) (hc:c<=1) (w:yi):
  (callFunc 207 #[.int .u64 x,.int .u64 y,.int .u64 c]).run Tryz.prog w=
   .ok (.value (.tuple #[.int .u64 (((x+y+c)%18446744073709551616:Nat):Int),.int .u64 (((x+y+c)/18446744073709551616:Nat):Int)])) w:=Any7.bits_Add64 Tryz.ar1 x y c hc w
def Tryz.bits_Sub64 (x y b:Nat) (hb:b<=1) (w:yi):
  (callFunc 209 #[.int .u64 x,.int .u64 y,.int .u64 b]).run Tryz.prog w=
   .ok (.value (.tuple #[.int .u64 (((x+18446744073709551616-y-b)%18446744073709551616:Nat):Int),.int .u64 ((if x<y+b then 1 else 0:Nat):Int)])) w:=Any7.bits_Sub64 Tryz.ar2 x y b hb w
open Go.RowKit in
def Tryz.an8 (s IF:ByteArray) (w:yi) (hs:s.size<=9223372036854775807) (pV:IF.size<4294967281) (awa:∀(j:Nat) b,IF.data.toList[j]? =some b->b.toNat<128):
  xV Tryz.prog 192 #[.string s,.string IF] w fun e w'=>e= .returned (.string ⟨(Lib.trimS s.data.toList IF.data.toList).toArray⟩)/\Below w.heap.size w w':=
 Any.strings_Trim_laid Tryz.atM (by kernel_rfl) s IF w hs pV awa
def Tryz.s1_3 (w:yi) (h:w.ShapedOpen Tryz.prog):∃m,w.cell? ⟨1,0,none⟩=some (.int .i64 m):=Tryz.ar0.s1_3 w h
def Tryz.abm:xK:=⟨fun | 166=>205 | 240=>232 | 276=>253 | n=>n,fun | 20=>20 | 37=>224 | 70=>223 | 72=>226 | 75=>199 | 80=>188 | 164=>265 | n=>n,fun | n=>n⟩
def Tryz.atY:ybB Tryz.prog Tryz.abm:=by
 repeat' first | kernel_rfl | (intro w;kernel_rfl) | decide | constructor
def Tryz.anM:Builder.Extra Tryz.prog Tryz.abm:=by
 repeat' first | kernel_rfl | (intro w;kernel_rfl) | decide | constructor
open Go.RowKit in
def Tryz.Builder_WriteString (B b:Nat) (bs:List Value) (s:ByteArray) (w:yi) (h:Lib.IsBuilder 226 5 B b bs w) (hlen:bs.length+s.size<=140737488355328) (ZL:B<=w.heap.size):
  xV Tryz.prog 205 #[.pointer (some ⟨b,0,none⟩),.string s] w fun e w'=>e= .returned (.tuple #[.int .i64 s.size,.nilIface])/\(Lib.BuilderAt 226 5 B b (.pointer (some ⟨b,0,none⟩)) (bs++Lib.strCells s) w'/\Below B w w'):=Any.Builder_WriteString Tryz.atY Tryz.anM B b bs s w h hlen ZL
end Go.Proofs
