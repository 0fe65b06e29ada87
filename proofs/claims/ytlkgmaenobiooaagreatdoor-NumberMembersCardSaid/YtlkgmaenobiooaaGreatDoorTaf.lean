import Derived.Shelf.Small.Bits
import Derived.Shelf.Small.Wraps
import Derived.Shelf.Strconv.Atoi
import Derived.Shelf.LaysM
import Derived.Shelf.Strconv.Itoa3
import Derived.Shelf.Strings.Cut
import Derived.Shelf.Strings.Prefix
import Derived.Shelf.Bits.Mul64
import Derived.Shelf.Strings.Repeat
import Derived.Shelf.Strings.SlTrimAscii
import Derived.Shelf.Spec.BitsCarry
import Derived.Shelf.Strings.Builder1
import Derived.Test.YtlkgmaenobiooaaGreatDoorProg
set_option linter.all false
set_option maxRecDepth 100000
open Go renaming Calls→xN,World→yh
open Go.Proofs.Lays renaming n101→ybB,n103→ybu,n105→ybD,n129→ybw,n134→ybt,n145→ybz,n160→ybs,n166→ybE,n169→ybr,n172→ybv,n264→ybC,n283→ybx,n285→yby,n99→ybA
open Go.Proofs.Lays7 renaming n25→ybg,n26→ybh
open Go.Proofs.LaysM renaming n145→ybf,n171→ybe,n284→ybd
open Go.Shelf renaming Ren→xA
namespace Go.Proofs
open Go.Shelf
def Tryz.aem:xA:=⟨fun | 169=>227 | n=>n,fun | 70=>240 | 9=>9 | 0=>0 | 72=>243 | 37=>241 | 127=>261 | 3=>3 | 5=>5 | n=>n,fun | n=>n⟩
def Tryz.av3:ybr Tryz.prog Tryz.aem:=by
 repeat' first | kernel_rfl | (intro w;kernel_rfl) | decide | constructor
def Tryz.apZ:Builder.Extra Tryz.prog Tryz.aem:=by
 repeat' first | kernel_rfl | (intro w;kernel_rfl) | decide | constructor
open Go.RowKit in
def Tryz.Builder_String_any (B b:Nat) (l:List UInt8) (w:yh) (h:Lib.IsBuilder 243 5 B b (Lib.byteCells l) w) (hBw:B<=w.heap.size):
  xN Tryz.prog 227 #[.pointer (some ⟨b,0,none⟩)] w fun e w'=>e= .returned (.string ⟨l.toArray⟩)/\Below B w w':=Any.Builder_String_any Tryz.av3 Tryz.apZ B b l w h hBw
def Tryz.aqx:xA:=⟨fun | 160=>213 | 232=>237 | 231=>236 | 227=>238 | 234=>240 | 233=>239 | 236=>242 | 235=>241 | 228=>263 | 271=>266 | 151=>265 | 197=>264 | 120=>282 | 152=>281 | 260=>280 | 137=>290 | 119=>291 | 224=>256 | 225=>255 | 217=>254 | 266=>275 | n=>n,fun | 9=>9 | 4=>4 | 3=>3 | 5=>5 | 117=>251 | 116=>250 | 0=>0 | 124=>254 | 21=>21 | 105=>270 | 46=>227 | 119=>301 | 139=>304 | 138=>303 | n=>n,fun | 3=>7 | 4=>8 | n=>n⟩
def Tryz.av4:ybs Tryz.prog Tryz.aqx:=by
 repeat' first | kernel_rfl | (intro w;kernel_rfl) | decide | constructor
def Tryz.aqy:xA:=⟨fun | 134=>244 | 129=>188 | n=>n,fun | 53=>202 | 3=>3 | 4=>4 | 46=>227 | 5=>5 | 9=>9 | n=>n,fun | n=>n⟩
def Tryz.av5:ybt Tryz.prog Tryz.aqy:=by
 repeat' first | kernel_rfl | (intro w;kernel_rfl) | decide | constructor
def Tryz.bits_LeadingZeros64 (x:Int) (w:yh) (h0:0<=x) (h1:x<=18446744073709551615):
  xN Tryz.prog 244 #[.int .u64 x] w fun e w'=>e= .returned (.int .i64 (64-(Lib.bitLen x.toNat:Int)))/\w'=w:=Any.bits_LeadingZeros64 Tryz.av5 x w h0 h1
def Tryz.aqz:xA:=⟨fun | 103=>165 | 210=>212 | 206=>232 | n=>n,fun | 9=>9 | 4=>4 | 24=>183 | 3=>3 | n=>n,fun | n=>n⟩
def Tryz.av6:ybu Tryz.prog Tryz.aqz:=by
 repeat' first | kernel_rfl | (intro w;kernel_rfl) | decide | constructor
open Go.RowKit in
def Tryz.strings_CutPrefix (s p:ByteArray) (w:yh):
  xN Tryz.prog 165 #[.string s,.string p] w fun e w'=>e= .returned (.tuple #[.string ⟨(Lib.trimPrefix s.data.toList p.data.toList).toArray⟩,.bool (Lib.hasPrefix s.data.toList p.data.toList)])/\w'=w:=Any.strings_CutPrefix Tryz.av6 s p w
def Tryz.aqA:xA:=⟨fun | 172=>210 | 244=>234 | 245=>235 | 247=>258 | 279=>259 | 280=>260 | 281=>261 | 282=>262 | 287=>277 | 316=>278 | 171=>223 | 205=>279 | 321=>288 | 322=>289 | 243=>248 | 246=>267 | 283=>268 | 284=>269 | 285=>270 | 286=>271 | 129=>188 | 317=>283 | 318=>284 | 319=>285 | 320=>286 | 337=>292 | 338=>293 | n=>n,fun | 9=>9 | 3=>3 | 75=>221 | 76=>222 | 4=>4 | 5=>5 | 167=>263 | 37=>241 | 0=>0 | 85=>264 | 2=>2 | 168=>266 | 53=>202 | 175=>284 | 46=>227 | 210=>288 | 127=>261 | 145=>300 | 143=>298 | 21=>21 | 171=>274 | 173=>276 | 212=>292 | 51=>278 | 20=>20 | 213=>293 | 232=>307 | 233=>308 | 80=>205 | n=>n,fun | 15=>4 | 16=>5 | 17=>6 | 18=>9 | 19=>10 | n=>n⟩
def Tryz.av7:ybv Tryz.prog Tryz.aqA:=by
 repeat' first | kernel_rfl | (intro w;kernel_rfl) | decide | constructor
open Go.RowKit in
def Tryz.strconv_Atoi (s:ByteArray) (n:Int) (hl:s.size<=18) (h:Lib.atoi s.data.toList=some n) (w:yh):
  xN Tryz.prog 210 #[.string s] w fun e w'=>e= .returned (.tuple #[.int .i64 n,.nilIface])/\∃t,w'=Lib.bytesWorld w 5 t:=Any.strconv_Atoi Tryz.av7 s n hl h w
def Tryz.aqB:xA:=⟨fun | 129=>188 | n=>n,fun | 53=>202 | 3=>3 | 4=>4 | 46=>227 | 5=>5 | 9=>9 | n=>n,fun | n=>n⟩
def Tryz.av8:ybw Tryz.prog Tryz.aqB:=by
 repeat' first | kernel_rfl | (intro w;kernel_rfl) | decide | constructor
def Tryz.bits_Len64 (x:Int) (w:yh) (h0:0<=x) (h1:x<=18446744073709551615):
  xN Tryz.prog 188 #[.int .u64 x] w fun e w'=>e= .returned (.int .i64 (Lib.bitLen x.toNat))/\w'=w:=Any.bits_Len64 Tryz.av8 x w h0 h1
def Tryz.aqC:xA:=⟨fun | 283=>268 | n=>n,fun | 3=>3 | 9=>9 | 4=>4 | n=>n,fun | n=>n⟩
def Tryz.av9:ybx Tryz.prog Tryz.aqC:=by
 repeat' first | kernel_rfl | (intro w;kernel_rfl) | decide | constructor
open Go.Lib in
def Tryz.internal_strconv_small (i:Nat) (h:i<100) (w:yh):
  xN Tryz.prog 268 #[.int .i64 i] w fun e w'=>e= .returned (.string ⟨(Lib.decDigits i).toArray⟩)/\w'=w:=Any.internal_strconv_small Tryz.av9 i h w
def Tryz.aqg:xA:=⟨fun | 284=>269 | 129=>188 | 317=>283 | 318=>284 | n=>n,fun | 53=>202 | 3=>3 | 212=>292 | 0=>0 | 4=>4 | 46=>227 | 5=>5 | 9=>9 | n=>n,fun | 17=>6 | n=>n⟩
def Tryz.aue:ybd Tryz.prog Tryz.aqg:=by
 repeat' first | kernel_rfl | (intro w;kernel_rfl) | decide | constructor
open Go.Lib in
def Tryz.internal_strconv_numDigits (u:Nat) (h1:1<=u) (h2:u<18446744073709551616) (w:yh) (Ez:Lib.TabIs Tryz.prog w "internal/strconv.uint64pow10" .u64 Lib.pow10Tab):
  xN Tryz.prog 269 #[.int .u64 u] w fun e w'=>e= .returned (.int .i64 (Lib.nDigits u))/\w'=w:=Any.internal_strconv_numDigits Tryz.aue u h1 h2 w Ez
def Tryz.aqD:xA:=⟨fun | 285=>270 | n=>n,fun | 37=>241 | 53=>202 | 3=>3 | 4=>4 | 51=>278 | 9=>9 | 5=>5 | 0=>0 | n=>n,fun | n=>n⟩
def Tryz.awa:yby Tryz.prog Tryz.aqD:=by
 repeat' first | kernel_rfl | (intro w;kernel_rfl) | decide | constructor
open Go.RowKit Go.Sort Go.Lib in
def Tryz.internal_strconv_formatBase10 (aQ off cap:Nat) (u:Nat) (d:Array UInt8) (w:yh) (hH:Holds (fun (b:UInt8)=>Value.int .u8 (b.toNat:Int)) w aQ off d) (hu:u<10^d.size) (EA:u<18446744073709551616) (eY:d.size<4611686018427387904):
  xN Tryz.prog 270 #[.slice (some ⟨aQ,off,none⟩) d.size cap,.int .u64 u] w fun e w'=>
   e= .returned (.tuple #[])/\∃(n v':Nat) (dk:Array UInt8),w'=(putRow (fun (b:UInt8)=>Value.int .u8 (b.toNat:Int)) w aQ off dk).drewN n/\FmtInv d.size u 0 v' dk:=Any.internal_strconv_formatBase10 Tryz.awa aQ off cap u d w hH hu EA eY
def Tryz.aqh:xA:=⟨fun | 171=>223 | 243=>248 | 246=>267 | 283=>268 | 284=>269 | 285=>270 | 286=>271 | 129=>188 | 317=>283 | 318=>284 | 319=>285 | 320=>286 | 337=>292 | 338=>293 | n=>n,fun | 3=>3 | 9=>9 | 2=>2 | 4=>4 | 171=>274 | 0=>0 | 53=>202 | 37=>241 | 5=>5 | 173=>276 | 212=>292 | 51=>278 | 20=>20 | 213=>293 | 46=>227 | 232=>307 | 233=>308 | n=>n,fun | 17=>6 | 18=>9 | 19=>10 | n=>n⟩
def Tryz.auf:ybe Tryz.prog Tryz.aqh:=by
 repeat' first | kernel_rfl | (intro w;kernel_rfl) | decide | constructor
open Go.RowKit Go.Sort Go.Lib in
def Tryz.strconv_Itoa (n:Int) (h0: -9223372036854775808<=n) (h1:n<=9223372036854775807) (w:yh) (Ez:Lib.TabIs Tryz.prog w "internal/strconv.uint64pow10" .u64 Lib.pow10Tab):
  xN Tryz.prog 223 #[.int .i64 n] w fun e w'=>e= .returned (.string ⟨(Lib.itoa n).toArray⟩)/\∃k os,w'=grow (w.drewN k) os:=Any.strconv_Itoa Tryz.auf n h0 h1 w Ez
def Tryz.aqE:xA:=⟨fun | 145=>159 | 220=>207 | 219=>231 | 217=>254 | 225=>255 | 224=>256 | 267=>257 | 266=>275 | 314=>276 | n=>n,fun | 9=>9 | 4=>4 | 59=>178 | 3=>3 | 5=>5 | 46=>227 | 146=>279 | 51=>278 | n=>n,fun | 1=>1 | n=>n⟩
def Tryz.awb:ybz Tryz.prog Tryz.aqE:=by
 repeat' first | kernel_rfl | (intro w;kernel_rfl) | decide | constructor
open Go.RowKit Go.Lib in
def Tryz.strings_Cut (s sep:ByteArray) (m:Int) (w:yh) (hs:s.size<4294967281) (hm:w.cell? ⟨1,0,none⟩=some (.int .i64 m)):
  xN Tryz.prog 159 #[.string s,.string sep] w fun e w'=>e= .returned (.tuple #[.string ⟨(Lib.cut s.data.toList sep.data.toList).1.toArray⟩,.string ⟨(Lib.cut s.data.toList sep.data.toList).2.1.toArray⟩,.bool (Lib.cut s.data.toList sep.data.toList).2.2])/\∃n,w'=w.drewN n:=Any.strings_Cut Tryz.awb s sep m w hs hm
def Tryz.aqi:xA:=⟨fun | 145=>159 | 220=>207 | 219=>231 | 217=>254 | 225=>255 | 224=>256 | 267=>257 | 266=>275 | 314=>276 | n=>n,fun | 9=>9 | 4=>4 | 59=>178 | 3=>3 | 5=>5 | 46=>227 | 146=>279 | 51=>278 | n=>n,fun | 1=>1 | n=>n⟩
def Tryz.aug:ybf Tryz.prog Tryz.aqi:=by
 repeat' first | kernel_rfl | (intro w;kernel_rfl) | exact fun w h=>Go.Proofs.cell_of_shapedOpen_int (zero:=#[.int .i64 0]) (t:=3) h (of_decide_eq_true (by kernel_rfl)) (by kernel_rfl) rfl (by kernel_rfl) (by kernel_rfl) Tryz.underlying3 | decide | constructor
def Tryz.aq9:xA:=⟨fun | 99=>208 | 206=>232 | n=>n,fun | 9=>9 | 4=>4 | 3=>3 | n=>n,fun | n=>n⟩
def Tryz.ayd:ybA Tryz.prog Tryz.aq9:=by
 repeat' first | kernel_rfl | (intro w;kernel_rfl) | decide | constructor
open Go.RowKit Go.Lib in
def Tryz.strings_HasPrefix (s p:ByteArray) (w:yh):
  xN Tryz.prog 208 #[.string s,.string p] w fun e w'=>e= .returned (.bool (Lib.hasPrefix s.data.toList p.data.toList))/\w'=w:=Any.strings_HasPrefix Tryz.ayd s p w
def Tryz.aqF:xA:=⟨fun | 101=>209 | 208=>233 | 206=>232 | n=>n,fun | 9=>9 | 4=>4 | 3=>3 | n=>n,fun | n=>n⟩
def Tryz.awc:ybB Tryz.prog Tryz.aqF:=by
 repeat' first | kernel_rfl | (intro w;kernel_rfl) | decide | constructor
open Go.RowKit Go.Lib in
def Tryz.strings_TrimPrefix (s p:ByteArray) (w:yh):
  xN Tryz.prog 209 #[.string s,.string p] w fun e w'=>e= .returned (.string ⟨(Lib.trimPrefix s.data.toList p.data.toList).toArray⟩)/\w'=w:=Any.strings_TrimPrefix Tryz.awc s p w
def Tryz.aqG:xA:=⟨fun | 264=>200 | n=>n,fun | 53=>202 | 46=>227 | n=>n,fun | n=>n⟩
def Tryz.awd:ybC Tryz.prog Tryz.aqG:=by
 repeat' first | kernel_rfl | (intro w;kernel_rfl) | decide | constructor
open Go.RowKit Go.Lib in
def Tryz.bits_Mul64 (x y:Nat) (hx:x<18446744073709551616) (hy:y<18446744073709551616) (w:yh):
  xN Tryz.prog 200 #[.int .u64 x,.int .u64 y] w fun e w'=>e= .returned (.tuple #[.int .u64 ((x*y/18446744073709551616:Nat):Int),.int .u64 ((x*y%18446744073709551616:Nat):Int)])/\w'=w:=Any.bits_Mul64 Tryz.awd x y hx hy w
def Tryz.aen:xA:=⟨fun | 105=>225 | 212=>250 | 99=>208 | 165=>251 | 166=>226 | 170=>252 | 169=>227 | 263=>272 | 264=>200 | 206=>232 | 240=>253 | 241=>273 | 276=>274 | 277=>287 | n=>n,fun | 9=>9 | 3=>3 | 4=>4 | 20=>20 | 0=>0 | 46=>227 | 109=>258 | 5=>5 | 72=>243 | 76=>222 | 51=>278 | 146=>279 | 53=>202 | 148=>210 | 70=>240 | 37=>241 | 75=>221 | 127=>261 | 164=>281 | 80=>205 | n=>n,fun | n=>n⟩
def Tryz.awe:ybD Tryz.prog Tryz.aen:=by
 repeat' first | kernel_rfl | (intro w;kernel_rfl) | decide | constructor
def Tryz.ap0:Builder.Extra Tryz.prog Tryz.aen:=by
 repeat' first | kernel_rfl | (intro w;kernel_rfl) | decide | constructor
open Go.RowKit Go.Lib in
def Tryz.strings_Repeat (s:ByteArray) (c:Nat) (w:yh) (hc:c<=9223372036854775807) (hlen:s.size*c<=140737488355328):
  xN Tryz.prog 225 #[.string s,.int .i64 c] w fun e w'=>e= .returned (.string ⟨(Lib.repeatL s.data.toList c).toArray⟩)/\Below w.heap.size w w':=Any.strings_Repeat Tryz.awe Tryz.ap0 s c w hc hlen
def Tryz.aqj:xA:=⟨fun | 25=>228 | n=>n,fun | 22=>202 | n=>n,fun | n=>n⟩
def Tryz.auh:ybg Tryz.prog Tryz.aqj:=by
 repeat' first | kernel_rfl | (intro w;kernel_rfl) | decide | constructor
def Tryz.aqk:xA:=⟨fun | 26=>230 | n=>n,fun | 22=>202 | n=>n,fun | n=>n⟩
def Tryz.aui:ybh Tryz.prog Tryz.aqk:=by
 repeat' first | kernel_rfl | (intro w;kernel_rfl) | decide | constructor
def Tryz.bits_Add64 (x y c:Nat) (hc:c<=1) (w:yh):
  (callFunc 228 #[.int .u64 x,.int .u64 y,.int .u64 c]).run Tryz.prog w=
   .ok (.value (.tuple #[.int .u64 (((x+y+c)%18446744073709551616:Nat):Int),.int .u64 (((x+y+c)/18446744073709551616:Nat):Int)])) w:=Any7.bits_Add64 Tryz.auh x y c hc w
def Tryz.bits_Sub64 (x y b:Nat) (hb:b<=1) (w:yh):
  (callFunc 230 #[.int .u64 x,.int .u64 y,.int .u64 b]).run Tryz.prog w=
   .ok (.value (.tuple #[.int .u64 (((x+18446744073709551616-y-b)%18446744073709551616:Nat):Int),.int .u64 ((if x<y+b then 1 else 0:Nat):Int)])) w:=Any7.bits_Sub64 Tryz.aui x y b hb w
open Go.RowKit in
def Tryz.aql (s KR:ByteArray) (w:yh) (hs:s.size<=9223372036854775807) (C9:KR.size<4294967281) (aye:∀(j:Nat) b,KR.data.toList[j]? =some b->b.toNat<128):
  xN Tryz.prog 213 #[.string s,.string KR] w fun e w'=>e= .returned (.string ⟨(Lib.trimS s.data.toList KR.data.toList).toArray⟩)/\Below w.heap.size w w':=
 Any.strings_Trim_laid Tryz.av4 (by kernel_rfl) s KR w hs C9 aye
def Tryz.s1_3 (w:yh) (h:w.ShapedOpen Tryz.prog):∃m,w.cell? ⟨1,0,none⟩=some (.int .i64 m):=Tryz.aug.s1_3 w h
def Tryz.aeo:xA:=⟨fun | 166=>226 | 240=>253 | 276=>274 | n=>n,fun | 20=>20 | 37=>241 | 70=>240 | 72=>243 | 75=>221 | 80=>205 | 164=>281 | n=>n,fun | n=>n⟩
def Tryz.awf:ybE Tryz.prog Tryz.aeo:=by
 repeat' first | kernel_rfl | (intro w;kernel_rfl) | decide | constructor
def Tryz.ap1:Builder.Extra Tryz.prog Tryz.aeo:=by
 repeat' first | kernel_rfl | (intro w;kernel_rfl) | decide | constructor
open Go.RowKit in
def Tryz.Builder_WriteString (B b:Nat) (bs:List Value) (s:ByteArray) (w:yh) (h:Lib.IsBuilder 243 5 B b bs w) (hlen:bs.length+s.size<=140737488355328) (hBw:B<=w.heap.size):
  xN Tryz.prog 226 #[.pointer (some ⟨b,0,none⟩),.string s] w fun e w'=>e= .returned (.tuple #[.int .i64 s.size,.nilIface])/\(Lib.BuilderAt 243 5 B b (.pointer (some ⟨b,0,none⟩)) (bs++Lib.strCells s) w'/\Below B w w'):=Any.Builder_WriteString Tryz.awf Tryz.ap1 B b bs s w h hlen hBw
end Go.Proofs
