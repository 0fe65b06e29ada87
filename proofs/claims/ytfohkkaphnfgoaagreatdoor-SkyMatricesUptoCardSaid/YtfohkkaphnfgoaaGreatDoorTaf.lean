import Derived.Shelf.Small.Bits
import Derived.Shelf.Small.Wraps
import Derived.Shelf.Strconv.Atoi
import Derived.Shelf.LaysM
import Derived.Shelf.Strconv.Itoa3
import Derived.Shelf.Strings.Cut
import Derived.Shelf.Strings.Prefix
import Derived.Shelf.Bits.Mul64
import Derived.Shelf.Strings.Repeat
import Derived.Shelf.Strings.SlTrimAscii
import Derived.Shelf.Spec.BitsCarry
import Derived.Shelf.Strings.Builder1
import Derived.Test.YtfohkkaphnfgoaaGreatDoorProg
set_option linter.all false
set_option maxRecDepth 100000
open Go renaming Calls→xR,World→yj
open Go.Proofs.Lays renaming n101→ybe,n103→yaX,n105→ybg,n129→yaZ,n134→yaW,n145→ybc,n160→yaV,n166→ybh,n169→yaU,n172→yaY,n264→ybf,n283→yba,n285→ybb,n99→ybd
open Go.Proofs.Lays7 renaming n25→yaK,n26→yaL
open Go.Proofs.LaysM renaming n145→yaJ,n171→yaI,n284→yaH
open Go.Shelf renaming Ren→xG
namespace Go.Proofs
open Go.Shelf
def Tryz.Yu:xG:=⟨fun | 169=>207 | n=>n,fun | 70=>242 | 9=>9 | 0=>0 | 72=>245 | 37=>243 | 127=>277 | 3=>3 | 5=>5 | n=>n,fun | n=>n⟩
def Tryz.aor:yaU Tryz.prog Tryz.Yu:=by
 repeat' first | kernel_rfl | (intro w;kernel_rfl) | decide | constructor
def Tryz.aih:Builder.Extra Tryz.prog Tryz.Yu:=by
 repeat' first | kernel_rfl | (intro w;kernel_rfl) | decide | constructor
open Go.RowKit in
def Tryz.Builder_String_any (B b:Nat) (l:List UInt8) (w:yj) (h:Lib.IsBuilder 245 5 B b (Lib.byteCells l) w) (WA:B<=w.heap.size):
  xR Tryz.prog 207 #[.pointer (some ⟨b,0,none⟩)] w fun e w'=>e= .returned (.string ⟨l.toArray⟩)/\Below B w w':=Any.Builder_String_any Tryz.aor Tryz.aih B b l w h WA
def Tryz.aiO:xG:=⟨fun | 160=>228 | 232=>257 | 231=>256 | 227=>258 | 234=>260 | 233=>259 | 236=>262 | 235=>261 | 228=>282 | 271=>285 | 151=>284 | 197=>283 | 120=>298 | 152=>297 | 260=>296 | 137=>303 | 119=>304 | 224=>275 | 225=>274 | 217=>273 | 266=>291 | n=>n,fun | 9=>9 | 4=>4 | 3=>3 | 5=>5 | 117=>283 | 116=>282 | 0=>0 | 124=>286 | 21=>21 | 105=>305 | 46=>273 | 119=>326 | 139=>329 | 138=>328 | n=>n,fun | 3=>6 | 4=>7 | n=>n⟩
def Tryz.aos:yaV Tryz.prog Tryz.aiO:=by
 repeat' first | kernel_rfl | (intro w;kernel_rfl) | decide | constructor
def Tryz.aiP:xG:=⟨fun | 134=>241 | 129=>263 | n=>n,fun | 53=>236 | 3=>3 | 4=>4 | 46=>273 | 5=>5 | 9=>9 | n=>n,fun | n=>n⟩
def Tryz.aot:yaW Tryz.prog Tryz.aiP:=by
 repeat' first | kernel_rfl | (intro w;kernel_rfl) | decide | constructor
def Tryz.bits_LeadingZeros64 (x:Int) (w:yj) (h0:0<=x) (h1:x<=18446744073709551615):
  xR Tryz.prog 241 #[.int .u64 x] w fun e w'=>e= .returned (.int .i64 (64-(Lib.bitLen x.toNat:Int)))/\w'=w:=Any.bits_LeadingZeros64 Tryz.aot x w h0 h1
def Tryz.aiQ:xG:=⟨fun | 103=>167 | 210=>227 | 206=>251 | n=>n,fun | 9=>9 | 4=>4 | 24=>212 | 3=>3 | n=>n,fun | n=>n⟩
def Tryz.aou:yaX Tryz.prog Tryz.aiQ:=by
 repeat' first | kernel_rfl | (intro w;kernel_rfl) | decide | constructor
open Go.RowKit in
def Tryz.strings_CutPrefix (s p:ByteArray) (w:yj):
  xR Tryz.prog 167 #[.string s,.string p] w fun e w'=>e= .returned (.tuple #[.string ⟨(Lib.trimPrefix s.data.toList p.data.toList).toArray⟩,.bool (Lib.hasPrefix s.data.toList p.data.toList)])/\w'=w:=Any.strings_CutPrefix Tryz.aou s p w
def Tryz.aiR:xG:=⟨fun | 172=>221 | 244=>253 | 245=>254 | 247=>277 | 279=>278 | 280=>279 | 281=>280 | 282=>281 | 287=>293 | 316=>294 | 171=>201 | 205=>295 | 321=>301 | 322=>302 | 243=>238 | 246=>265 | 283=>266 | 284=>267 | 285=>268 | 286=>269 | 129=>263 | 317=>286 | 318=>287 | 319=>288 | 320=>289 | 337=>299 | 338=>300 | n=>n,fun | 9=>9 | 3=>3 | 75=>247 | 76=>248 | 4=>4 | 5=>5 | 167=>298 | 37=>243 | 0=>0 | 85=>299 | 2=>2 | 168=>301 | 53=>236 | 175=>314 | 46=>273 | 210=>318 | 127=>277 | 145=>325 | 143=>323 | 21=>21 | 171=>288 | 173=>290 | 212=>309 | 51=>292 | 20=>20 | 213=>310 | 232=>331 | 233=>332 | 80=>191 | n=>n,fun | 15=>4 | 16=>5 | 17=>3 | 18=>8 | 19=>9 | n=>n⟩
def Tryz.aov:yaY Tryz.prog Tryz.aiR:=by
 repeat' first | kernel_rfl | (intro w;kernel_rfl) | decide | constructor
open Go.RowKit in
def Tryz.strconv_Atoi (s:ByteArray) (n:Int) (hl:s.size<=18) (h:Lib.atoi s.data.toList=some n) (w:yj):
  xR Tryz.prog 221 #[.string s] w fun e w'=>e= .returned (.tuple #[.int .i64 n,.nilIface])/\∃t,w'=Lib.bytesWorld w 5 t:=Any.strconv_Atoi Tryz.aov s n hl h w
def Tryz.aiS:xG:=⟨fun | 129=>263 | n=>n,fun | 53=>236 | 3=>3 | 4=>4 | 46=>273 | 5=>5 | 9=>9 | n=>n,fun | n=>n⟩
def Tryz.aow:yaZ Tryz.prog Tryz.aiS:=by
 repeat' first | kernel_rfl | (intro w;kernel_rfl) | decide | constructor
def Tryz.bits_Len64 (x:Int) (w:yj) (h0:0<=x) (h1:x<=18446744073709551615):
  xR Tryz.prog 263 #[.int .u64 x] w fun e w'=>e= .returned (.int .i64 (Lib.bitLen x.toNat))/\w'=w:=Any.bits_Len64 Tryz.aow x w h0 h1
def Tryz.aiT:xG:=⟨fun | 283=>266 | n=>n,fun | 3=>3 | 9=>9 | 4=>4 | n=>n,fun | n=>n⟩
def Tryz.aox:yba Tryz.prog Tryz.aiT:=by
 repeat' first | kernel_rfl | (intro w;kernel_rfl) | decide | constructor
open Go.Lib in
def Tryz.internal_strconv_small (i:Nat) (h:i<100) (w:yj):
  xR Tryz.prog 266 #[.int .i64 i] w fun e w'=>e= .returned (.string ⟨(Lib.decDigits i).toArray⟩)/\w'=w:=Any.internal_strconv_small Tryz.aox i h w
def Tryz.aiz:xG:=⟨fun | 284=>267 | 129=>263 | 317=>286 | 318=>287 | n=>n,fun | 53=>236 | 3=>3 | 212=>309 | 0=>0 | 4=>4 | 46=>273 | 5=>5 | 9=>9 | n=>n,fun | 17=>3 | n=>n⟩
def Tryz.amp:yaH Tryz.prog Tryz.aiz:=by
 repeat' first | kernel_rfl | (intro w;kernel_rfl) | decide | constructor
open Go.Lib in
def Tryz.internal_strconv_numDigits (u:Nat) (h1:1<=u) (h2:u<18446744073709551616) (w:yj) (DH:Lib.TabIs Tryz.prog w "internal/strconv.uint64pow10" .u64 Lib.pow10Tab):
  xR Tryz.prog 267 #[.int .u64 u] w fun e w'=>e= .returned (.int .i64 (Lib.nDigits u))/\w'=w:=Any.internal_strconv_numDigits Tryz.amp u h1 h2 w DH
def Tryz.aiU:xG:=⟨fun | 285=>268 | n=>n,fun | 37=>243 | 53=>236 | 3=>3 | 4=>4 | 51=>292 | 9=>9 | 5=>5 | 0=>0 | n=>n,fun | n=>n⟩
def Tryz.aoy:ybb Tryz.prog Tryz.aiU:=by
 repeat' first | kernel_rfl | (intro w;kernel_rfl) | decide | constructor
open Go.RowKit Go.Sort Go.Lib in
def Tryz.internal_strconv_formatBase10 (aE off cap:Nat) (u:Nat) (d:Array UInt8) (w:yj) (hH:Holds (fun (b:UInt8)=>Value.int .u8 (b.toNat:Int)) w aE off d) (hu:u<10^d.size) (DI:u<18446744073709551616) (eV:d.size<4611686018427387904):
  xR Tryz.prog 268 #[.slice (some ⟨aE,off,none⟩) d.size cap,.int .u64 u] w fun e w'=>
   e= .returned (.tuple #[])/\∃(n v':Nat) (dk:Array UInt8),w'=(putRow (fun (b:UInt8)=>Value.int .u8 (b.toNat:Int)) w aE off dk).drewN n/\FmtInv d.size u 0 v' dk:=Any.internal_strconv_formatBase10 Tryz.aoy aE off cap u d w hH hu DI eV
def Tryz.aiA:xG:=⟨fun | 171=>201 | 243=>238 | 246=>265 | 283=>266 | 284=>267 | 285=>268 | 286=>269 | 129=>263 | 317=>286 | 318=>287 | 319=>288 | 320=>289 | 337=>299 | 338=>300 | n=>n,fun | 3=>3 | 9=>9 | 2=>2 | 4=>4 | 171=>288 | 0=>0 | 53=>236 | 37=>243 | 5=>5 | 173=>290 | 212=>309 | 51=>292 | 20=>20 | 213=>310 | 46=>273 | 232=>331 | 233=>332 | n=>n,fun | 17=>3 | 18=>8 | 19=>9 | n=>n⟩
def Tryz.amq:yaI Tryz.prog Tryz.aiA:=by
 repeat' first | kernel_rfl | (intro w;kernel_rfl) | decide | constructor
open Go.RowKit Go.Sort Go.Lib in
def Tryz.strconv_Itoa (n:Int) (h0: -9223372036854775808<=n) (h1:n<=9223372036854775807) (w:yj) (DH:Lib.TabIs Tryz.prog w "internal/strconv.uint64pow10" .u64 Lib.pow10Tab):
  xR Tryz.prog 201 #[.int .i64 n] w fun e w'=>e= .returned (.string ⟨(Lib.itoa n).toArray⟩)/\∃k os,w'=grow (w.drewN k) os:=Any.strconv_Itoa Tryz.amq n h0 h1 w DH
def Tryz.aiV:xG:=⟨fun | 145=>153 | 220=>218 | 219=>250 | 217=>273 | 225=>274 | 224=>275 | 267=>276 | 266=>291 | 314=>292 | n=>n,fun | 9=>9 | 4=>4 | 59=>202 | 3=>3 | 5=>5 | 46=>273 | 146=>293 | 51=>292 | n=>n,fun | 1=>2 | n=>n⟩
def Tryz.aoz:ybc Tryz.prog Tryz.aiV:=by
 repeat' first | kernel_rfl | (intro w;kernel_rfl) | decide | constructor
open Go.RowKit Go.Lib in
def Tryz.strings_Cut (s sep:ByteArray) (m:Int) (w:yj) (hs:s.size<4294967281) (hm:w.cell? ⟨2,0,none⟩=some (.int .i64 m)):
  xR Tryz.prog 153 #[.string s,.string sep] w fun e w'=>e= .returned (.tuple #[.string ⟨(Lib.cut s.data.toList sep.data.toList).1.toArray⟩,.string ⟨(Lib.cut s.data.toList sep.data.toList).2.1.toArray⟩,.bool (Lib.cut s.data.toList sep.data.toList).2.2])/\∃n,w'=w.drewN n:=Any.strings_Cut Tryz.aoz s sep m w hs hm
def Tryz.aiB:xG:=⟨fun | 145=>153 | 220=>218 | 219=>250 | 217=>273 | 225=>274 | 224=>275 | 267=>276 | 266=>291 | 314=>292 | n=>n,fun | 9=>9 | 4=>4 | 59=>202 | 3=>3 | 5=>5 | 46=>273 | 146=>293 | 51=>292 | n=>n,fun | 1=>2 | n=>n⟩
def Tryz.amr:yaJ Tryz.prog Tryz.aiB:=by
 repeat' first | kernel_rfl | (intro w;kernel_rfl) | exact fun w h=>Go.Proofs.cell_of_shapedOpen_int (zero:=#[.int .i64 0]) (t:=3) h (of_decide_eq_true (by kernel_rfl)) (by kernel_rfl) rfl (by kernel_rfl) (by kernel_rfl) Tryz.underlying3 | decide | constructor
def Tryz.ajn:xG:=⟨fun | 99=>219 | 206=>251 | n=>n,fun | 9=>9 | 4=>4 | 3=>3 | n=>n,fun | n=>n⟩
def Tryz.aqI:ybd Tryz.prog Tryz.ajn:=by
 repeat' first | kernel_rfl | (intro w;kernel_rfl) | decide | constructor
open Go.RowKit Go.Lib in
def Tryz.strings_HasPrefix (s p:ByteArray) (w:yj):
  xR Tryz.prog 219 #[.string s,.string p] w fun e w'=>e= .returned (.bool (Lib.hasPrefix s.data.toList p.data.toList))/\w'=w:=Any.strings_HasPrefix Tryz.aqI s p w
def Tryz.aiW:xG:=⟨fun | 101=>220 | 208=>252 | 206=>251 | n=>n,fun | 9=>9 | 4=>4 | 3=>3 | n=>n,fun | n=>n⟩
def Tryz.aoA:ybe Tryz.prog Tryz.aiW:=by
 repeat' first | kernel_rfl | (intro w;kernel_rfl) | decide | constructor
open Go.RowKit Go.Lib in
def Tryz.strings_TrimPrefix (s p:ByteArray) (w:yj):
  xR Tryz.prog 220 #[.string s,.string p] w fun e w'=>e= .returned (.string ⟨(Lib.trimPrefix s.data.toList p.data.toList).toArray⟩)/\w'=w:=Any.strings_TrimPrefix Tryz.aoA s p w
def Tryz.aiX:xG:=⟨fun | 264=>211 | n=>n,fun | 53=>236 | 46=>273 | n=>n,fun | n=>n⟩
def Tryz.aoB:ybf Tryz.prog Tryz.aiX:=by
 repeat' first | kernel_rfl | (intro w;kernel_rfl) | decide | constructor
open Go.RowKit Go.Lib in
def Tryz.bits_Mul64 (x y:Nat) (hx:x<18446744073709551616) (hy:y<18446744073709551616) (w:yj):
  xR Tryz.prog 211 #[.int .u64 x,.int .u64 y] w fun e w'=>e= .returned (.tuple #[.int .u64 ((x*y/18446744073709551616:Nat):Int),.int .u64 ((x*y%18446744073709551616:Nat):Int)])/\w'=w:=Any.bits_Mul64 Tryz.aoB x y hx hy w
def Tryz.Yv:xG:=⟨fun | 105=>205 | 212=>245 | 99=>219 | 165=>246 | 166=>206 | 170=>247 | 169=>207 | 263=>270 | 264=>211 | 206=>251 | 240=>248 | 241=>271 | 276=>272 | 277=>290 | n=>n,fun | 9=>9 | 3=>3 | 4=>4 | 20=>20 | 0=>0 | 46=>273 | 109=>274 | 5=>5 | 72=>245 | 76=>248 | 51=>292 | 146=>293 | 53=>236 | 148=>251 | 70=>242 | 37=>243 | 75=>247 | 127=>277 | 164=>295 | 80=>191 | n=>n,fun | n=>n⟩
def Tryz.aoC:ybg Tryz.prog Tryz.Yv:=by
 repeat' first | kernel_rfl | (intro w;kernel_rfl) | decide | constructor
def Tryz.aii:Builder.Extra Tryz.prog Tryz.Yv:=by
 repeat' first | kernel_rfl | (intro w;kernel_rfl) | decide | constructor
open Go.RowKit Go.Lib in
def Tryz.strings_Repeat (s:ByteArray) (c:Nat) (w:yj) (hc:c<=9223372036854775807) (hlen:s.size*c<=140737488355328):
  xR Tryz.prog 205 #[.string s,.int .i64 c] w fun e w'=>e= .returned (.string ⟨(Lib.repeatL s.data.toList c).toArray⟩)/\Below w.heap.size w w':=Any.strings_Repeat Tryz.aoC Tryz.aii s c w hc hlen
def Tryz.aiC:xG:=⟨fun | 25=>249 | n=>n,fun | 22=>236 | n=>n,fun | n=>n⟩
def Tryz.ams:yaK Tryz.prog Tryz.aiC:=by
 repeat' first | kernel_rfl | (intro w;kernel_rfl) | decide | constructor
def Tryz.aiD:xG:=⟨fun | 26=>255 | n=>n,fun | 22=>236 | n=>n,fun | n=>n⟩
def Tryz.amt:yaL Tryz.prog Tryz.aiD:=by
 repeat' first | kernel_rfl | (intro w;kernel_rfl) | decide | constructor
def Tryz.bits_Add64 (x y c:Nat) (hc:c<=1) (w:yj):
  (callFunc 249 #[.int .u64 x,.int .u64 y,.int .u64 c]).run Tryz.prog w=
   .ok (.value (.tuple #[.int .u64 (((x+y+c)%18446744073709551616:Nat):Int),.int .u64 (((x+y+c)/18446744073709551616:Nat):Int)])) w:=Any7.bits_Add64 Tryz.ams x y c hc w
def Tryz.bits_Sub64 (x y b:Nat) (hb:b<=1) (w:yj):
  (callFunc 255 #[.int .u64 x,.int .u64 y,.int .u64 b]).run Tryz.prog w=
   .ok (.value (.tuple #[.int .u64 (((x+18446744073709551616-y-b)%18446744073709551616:Nat):Int),.int .u64 ((if x<y+b then 1 else 0:Nat):Int)])) w:=Any7.bits_Sub64 Tryz.amt x y b hb w
open Go.RowKit in
def Tryz.aiE (s Jd:ByteArray) (w:yj) (hs:s.size<=9223372036854775807) (nN:Jd.size<4294967281) (aqJ:∀(j:Nat) b,Jd.data.toList[j]? =some b->b.toNat<128):
  xR Tryz.prog 228 #[.string s,.string Jd] w fun e w'=>e= .returned (.string ⟨(Lib.trimS s.data.toList Jd.data.toList).toArray⟩)/\Below w.heap.size w w':=
 Any.strings_Trim_laid Tryz.aos (by kernel_rfl) s Jd w hs nN aqJ
def Tryz.s1_3 (w:yj) (h:w.ShapedOpen Tryz.prog):∃m,w.cell? ⟨2,0,none⟩=some (.int .i64 m):=Tryz.amr.s1_3 w h
def Tryz.Yw:xG:=⟨fun | 166=>206 | 240=>248 | 276=>272 | n=>n,fun | 20=>20 | 37=>243 | 70=>242 | 72=>245 | 75=>247 | 80=>191 | 164=>295 | n=>n,fun | n=>n⟩
def Tryz.aoD:ybh Tryz.prog Tryz.Yw:=by
 repeat' first | kernel_rfl | (intro w;kernel_rfl) | decide | constructor
def Tryz.aij:Builder.Extra Tryz.prog Tryz.Yw:=by
 repeat' first | kernel_rfl | (intro w;kernel_rfl) | decide | constructor
open Go.RowKit in
def Tryz.Builder_WriteString (B b:Nat) (bs:List Value) (s:ByteArray) (w:yj) (h:Lib.IsBuilder 245 5 B b bs w) (hlen:bs.length+s.size<=140737488355328) (WA:B<=w.heap.size):
  xR Tryz.prog 206 #[.pointer (some ⟨b,0,none⟩),.string s] w fun e w'=>e= .returned (.tuple #[.int .i64 s.size,.nilIface])/\(Lib.BuilderAt 245 5 B b (.pointer (some ⟨b,0,none⟩)) (bs++Lib.strCells s) w'/\Below B w w'):=Any.Builder_WriteString Tryz.aoD Tryz.aij B b bs s w h hlen WA
end Go.Proofs
