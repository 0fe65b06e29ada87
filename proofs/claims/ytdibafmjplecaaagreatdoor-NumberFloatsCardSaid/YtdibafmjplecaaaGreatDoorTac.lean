import Derived.Shelf.Small.Bits
import Derived.Shelf.Small.Wraps
import Derived.Shelf.Strconv.Atoi
import Derived.Shelf.LaysM
import Derived.Shelf.Strconv.Itoa3
import Derived.Shelf.Strings.Cut
import Derived.Shelf.Strings.Prefix
import Derived.Shelf.Bits.Mul64
import Derived.Shelf.Strings.Repeat
import Derived.Shelf.Strings.SlTrimAscii
import Derived.Shelf.Spec.BitsCarry
import Derived.Shelf.Strings.Builder1
import Derived.Test.YtdibafmjplecaaaGreatDoorProg
set_option linter.all false
set_option maxRecDepth 100000
open Go renaming Calls→xV,World→yi
open Go.Proofs.Lays renaming n101→ybP,n103→ybI,n105→ybR,n129→ybK,n134→ybH,n145→ybN,n160→ybG,n166→ybS,n169→ybF,n172→ybJ,n264→ybQ,n283→ybL,n285→ybM,n99→ybO
open Go.Proofs.Lays7 renaming n25→ybt,n26→ybu
open Go.Proofs.LaysM renaming n145→ybs,n171→ybr,n284→ybq
open Go.Shelf renaming Ren→xM
namespace Go.Proofs
open Go.Shelf
def Tryz.YT:xM:=⟨fun | 169=>173 | n=>n,fun | 70=>196 | 9=>9 | 0=>0 | 72=>199 | 37=>197 | 127=>235 | 3=>3 | 5=>5 | n=>n,fun | n=>n⟩
def Tryz.aq9:ybF Tryz.prog Tryz.YT:=by
 repeat' first | kernel_rfl | (intro w;kernel_rfl) | decide | constructor
def Tryz.ak9:Builder.Extra Tryz.prog Tryz.YT:=by
 repeat' first | kernel_rfl | (intro w;kernel_rfl) | decide | constructor
open Go.RowKit in
def Tryz.Builder_String_any (B b:Nat) (l:List UInt8) (w:yi) (h:Lib.IsBuilder 199 5 B b (Lib.byteCells l) w) (Xv:B<=w.heap.size):
  xV Tryz.prog 173 #[.pointer (some ⟨b,0,none⟩)] w fun e w'=>e= .returned (.string ⟨l.toArray⟩)/\Below B w w':=Any.Builder_String_any Tryz.aq9 Tryz.ak9 B b l w h Xv
def Tryz.alH:xM:=⟨fun | 160=>179 | 232=>215 | 231=>214 | 227=>216 | 234=>218 | 233=>217 | 236=>220 | 235=>219 | 228=>239 | 271=>242 | 151=>241 | 197=>240 | 120=>257 | 152=>256 | 260=>255 | 137=>263 | 119=>264 | 224=>237 | 225=>236 | 217=>235 | 266=>253 | n=>n,fun | 9=>9 | 4=>4 | 3=>3 | 5=>5 | 117=>240 | 116=>239 | 0=>0 | 124=>243 | 21=>21 | 105=>259 | 46=>212 | 119=>283 | 139=>286 | 138=>285 | n=>n,fun | 3=>7 | 4=>8 | n=>n⟩
def Tryz.ara:ybG Tryz.prog Tryz.alH:=by
 repeat' first | kernel_rfl | (intro w;kernel_rfl) | decide | constructor
def Tryz.alI:xM:=⟨fun | 134=>204 | 129=>131 | n=>n,fun | 53=>164 | 3=>3 | 4=>4 | 46=>212 | 5=>5 | 9=>9 | n=>n,fun | n=>n⟩
def Tryz.arb:ybH Tryz.prog Tryz.alI:=by
 repeat' first | kernel_rfl | (intro w;kernel_rfl) | decide | constructor
def Tryz.bits_LeadingZeros64 (x:Int) (w:yi) (h0:0<=x) (h1:x<=18446744073709551615):
  xV Tryz.prog 204 #[.int .u64 x] w fun e w'=>e= .returned (.int .i64 (64-(Lib.bitLen x.toNat:Int)))/\w'=w:=Any.bits_LeadingZeros64 Tryz.arb x w h0 h1
def Tryz.alJ:xM:=⟨fun | 103=>122 | 210=>177 | 206=>212 | n=>n,fun | 9=>9 | 4=>4 | 24=>154 | 3=>3 | n=>n,fun | n=>n⟩
def Tryz.arc:ybI Tryz.prog Tryz.alJ:=by
 repeat' first | kernel_rfl | (intro w;kernel_rfl) | decide | constructor
open Go.RowKit in
def Tryz.strings_CutPrefix (s p:ByteArray) (w:yi):
  xV Tryz.prog 122 #[.string s,.string p] w fun e w'=>e= .returned (.tuple #[.string ⟨(Lib.trimPrefix s.data.toList p.data.toList).toArray⟩,.bool (Lib.hasPrefix s.data.toList p.data.toList)])/\w'=w:=Any.strings_CutPrefix Tryz.arc s p w
def Tryz.alK:xM:=⟨fun | 172=>182 | 244=>222 | 245=>223 | 247=>243 | 279=>244 | 280=>245 | 281=>246 | 282=>247 | 287=>258 | 316=>259 | 171=>168 | 205=>260 | 321=>265 | 322=>266 | 243=>201 | 246=>227 | 283=>228 | 284=>229 | 285=>230 | 286=>231 | 129=>131 | 317=>248 | 318=>249 | 319=>250 | 320=>251 | 337=>261 | 338=>262 | n=>n,fun | 9=>9 | 3=>3 | 75=>201 | 76=>202 | 4=>4 | 5=>5 | 167=>262 | 37=>197 | 0=>0 | 85=>263 | 2=>2 | 168=>265 | 53=>164 | 175=>276 | 46=>212 | 210=>280 | 127=>235 | 145=>291 | 143=>289 | 21=>21 | 171=>247 | 173=>249 | 212=>269 | 51=>251 | 20=>20 | 213=>270 | 232=>292 | 233=>293 | 80=>149 | n=>n,fun | 15=>5 | 16=>6 | 17=>4 | 18=>9 | 19=>10 | n=>n⟩
def Tryz.ard:ybJ Tryz.prog Tryz.alK:=by
 repeat' first | kernel_rfl | (intro w;kernel_rfl) | decide | constructor
open Go.RowKit in
def Tryz.strconv_Atoi (s:ByteArray) (n:Int) (hl:s.size<=18) (h:Lib.atoi s.data.toList=some n) (w:yi):
  xV Tryz.prog 182 #[.string s] w fun e w'=>e= .returned (.tuple #[.int .i64 n,.nilIface])/\∃t,w'=Lib.bytesWorld w 5 t:=Any.strconv_Atoi Tryz.ard s n hl h w
def Tryz.alL:xM:=⟨fun | 129=>131 | n=>n,fun | 53=>164 | 3=>3 | 4=>4 | 46=>212 | 5=>5 | 9=>9 | n=>n,fun | n=>n⟩
def Tryz.are:ybK Tryz.prog Tryz.alL:=by
 repeat' first | kernel_rfl | (intro w;kernel_rfl) | decide | constructor
def Tryz.bits_Len64 (x:Int) (w:yi) (h0:0<=x) (h1:x<=18446744073709551615):
  xV Tryz.prog 131 #[.int .u64 x] w fun e w'=>e= .returned (.int .i64 (Lib.bitLen x.toNat))/\w'=w:=Any.bits_Len64 Tryz.are x w h0 h1
def Tryz.alM:xM:=⟨fun | 283=>228 | n=>n,fun | 3=>3 | 9=>9 | 4=>4 | n=>n,fun | n=>n⟩
def Tryz.arf:ybL Tryz.prog Tryz.alM:=by
 repeat' first | kernel_rfl | (intro w;kernel_rfl) | decide | constructor
open Go.Lib in
def Tryz.internal_strconv_small (i:Nat) (h:i<100) (w:yi):
  xV Tryz.prog 228 #[.int .i64 i] w fun e w'=>e= .returned (.string ⟨(Lib.decDigits i).toArray⟩)/\w'=w:=Any.internal_strconv_small Tryz.arf i h w
def Tryz.alr:xM:=⟨fun | 284=>229 | 129=>131 | 317=>248 | 318=>249 | n=>n,fun | 53=>164 | 3=>3 | 212=>269 | 0=>0 | 4=>4 | 46=>212 | 5=>5 | 9=>9 | n=>n,fun | 17=>4 | n=>n⟩
def Tryz.apj:ybq Tryz.prog Tryz.alr:=by
 repeat' first | kernel_rfl | (intro w;kernel_rfl) | decide | constructor
open Go.Lib in
def Tryz.internal_strconv_numDigits (u:Nat) (h1:1<=u) (h2:u<18446744073709551616) (w:yi) (BJ:Lib.TabIs Tryz.prog w "internal/strconv.uint64pow10" .u64 Lib.pow10Tab):
  xV Tryz.prog 229 #[.int .u64 u] w fun e w'=>e= .returned (.int .i64 (Lib.nDigits u))/\w'=w:=Any.internal_strconv_numDigits Tryz.apj u h1 h2 w BJ
def Tryz.alN:xM:=⟨fun | 285=>230 | n=>n,fun | 37=>197 | 53=>164 | 3=>3 | 4=>4 | 51=>251 | 9=>9 | 5=>5 | 0=>0 | n=>n,fun | n=>n⟩
def Tryz.arh:ybM Tryz.prog Tryz.alN:=by
 repeat' first | kernel_rfl | (intro w;kernel_rfl) | decide | constructor
open Go.RowKit Go.Sort Go.Lib in
def Tryz.internal_strconv_formatBase10 (dj off cap:Nat) (u:Nat) (d:Array UInt8) (w:yi) (hH:Holds (fun (b:UInt8)=>Value.int .u8 (b.toNat:Int)) w dj off d) (hu:u<10^d.size) (BK:u<18446744073709551616) (ej:d.size<4611686018427387904):
  xV Tryz.prog 230 #[.slice (some ⟨dj,off,none⟩) d.size cap,.int .u64 u] w fun e w'=>
   e= .returned (.tuple #[])/\∃(n v':Nat) (dk:Array UInt8),w'=(putRow (fun (b:UInt8)=>Value.int .u8 (b.toNat:Int)) w dj off dk).drewN n/\FmtInv d.size u 0 v' dk:=Any.internal_strconv_formatBase10 Tryz.arh dj off cap u d w hH hu BK ej
def Tryz.als:xM:=⟨fun | 171=>168 | 243=>201 | 246=>227 | 283=>228 | 284=>229 | 285=>230 | 286=>231 | 129=>131 | 317=>248 | 318=>249 | 319=>250 | 320=>251 | 337=>261 | 338=>262 | n=>n,fun | 3=>3 | 9=>9 | 2=>2 | 4=>4 | 171=>247 | 0=>0 | 53=>164 | 37=>197 | 5=>5 | 173=>249 | 212=>269 | 51=>251 | 20=>20 | 213=>270 | 46=>212 | 232=>292 | 233=>293 | n=>n,fun | 17=>4 | 18=>9 | 19=>10 | n=>n⟩
def Tryz.apk:ybr Tryz.prog Tryz.als:=by
 repeat' first | kernel_rfl | (intro w;kernel_rfl) | decide | constructor
open Go.RowKit Go.Sort Go.Lib in
def Tryz.strconv_Itoa (n:Int) (h0: -9223372036854775808<=n) (h1:n<=9223372036854775807) (w:yi) (BJ:Lib.TabIs Tryz.prog w "internal/strconv.uint64pow10" .u64 Lib.pow10Tab):
  xV Tryz.prog 168 #[.int .i64 n] w fun e w'=>e= .returned (.string ⟨(Lib.itoa n).toArray⟩)/\∃k os,w'=grow (w.drewN k) os:=Any.strconv_Itoa Tryz.apk n h0 h1 w BJ
def Tryz.alO:xM:=⟨fun | 145=>123 | 220=>178 | 219=>213 | 217=>235 | 225=>236 | 224=>237 | 267=>238 | 266=>253 | 314=>254 | n=>n,fun | 9=>9 | 4=>4 | 59=>156 | 3=>3 | 5=>5 | 46=>212 | 146=>252 | 51=>251 | n=>n,fun | 1=>3 | n=>n⟩
def Tryz.ari:ybN Tryz.prog Tryz.alO:=by
 repeat' first | kernel_rfl | (intro w;kernel_rfl) | decide | constructor
open Go.RowKit Go.Lib in
def Tryz.strings_Cut (s sep:ByteArray) (m:Int) (w:yi) (hs:s.size<4294967281) (hm:w.cell? ⟨3,0,none⟩=some (.int .i64 m)):
  xV Tryz.prog 123 #[.string s,.string sep] w fun e w'=>e= .returned (.tuple #[.string ⟨(Lib.cut s.data.toList sep.data.toList).1.toArray⟩,.string ⟨(Lib.cut s.data.toList sep.data.toList).2.1.toArray⟩,.bool (Lib.cut s.data.toList sep.data.toList).2.2])/\∃n,w'=w.drewN n:=Any.strings_Cut Tryz.ari s sep m w hs hm
def Tryz.alt:xM:=⟨fun | 145=>123 | 220=>178 | 219=>213 | 217=>235 | 225=>236 | 224=>237 | 267=>238 | 266=>253 | 314=>254 | n=>n,fun | 9=>9 | 4=>4 | 59=>156 | 3=>3 | 5=>5 | 46=>212 | 146=>252 | 51=>251 | n=>n,fun | 1=>3 | n=>n⟩
def Tryz.apl:ybs Tryz.prog Tryz.alt:=by
 repeat' first | kernel_rfl | (intro w;kernel_rfl) | exact fun w h=>Go.Proofs.cell_of_shapedOpen_int (zero:=#[.int .i64 0]) (t:=3) h (of_decide_eq_true (by kernel_rfl)) (by kernel_rfl) rfl (by kernel_rfl) (by kernel_rfl) Tryz.underlying3 | decide | constructor
def Tryz.amo:xM:=⟨fun | 99=>180 | 206=>212 | n=>n,fun | 9=>9 | 4=>4 | 3=>3 | n=>n,fun | n=>n⟩
def Tryz.att:ybO Tryz.prog Tryz.amo:=by
 repeat' first | kernel_rfl | (intro w;kernel_rfl) | decide | constructor
open Go.RowKit Go.Lib in
def Tryz.strings_HasPrefix (s p:ByteArray) (w:yi):
  xV Tryz.prog 180 #[.string s,.string p] w fun e w'=>e= .returned (.bool (Lib.hasPrefix s.data.toList p.data.toList))/\w'=w:=Any.strings_HasPrefix Tryz.att s p w
def Tryz.alP:xM:=⟨fun | 101=>181 | 208=>221 | 206=>212 | n=>n,fun | 9=>9 | 4=>4 | 3=>3 | n=>n,fun | n=>n⟩
def Tryz.arj:ybP Tryz.prog Tryz.alP:=by
 repeat' first | kernel_rfl | (intro w;kernel_rfl) | decide | constructor
open Go.RowKit Go.Lib in
def Tryz.strings_TrimPrefix (s p:ByteArray) (w:yi):
  xV Tryz.prog 181 #[.string s,.string p] w fun e w'=>e= .returned (.string ⟨(Lib.trimPrefix s.data.toList p.data.toList).toArray⟩)/\w'=w:=Any.strings_TrimPrefix Tryz.arj s p w
def Tryz.alQ:xM:=⟨fun | 264=>186 | n=>n,fun | 53=>164 | 46=>212 | n=>n,fun | n=>n⟩
def Tryz.ark:ybQ Tryz.prog Tryz.alQ:=by
 repeat' first | kernel_rfl | (intro w;kernel_rfl) | decide | constructor
open Go.RowKit Go.Lib in
def Tryz.bits_Mul64 (x y:Nat) (hx:x<18446744073709551616) (hy:y<18446744073709551616) (w:yi):
  xV Tryz.prog 186 #[.int .u64 x,.int .u64 y] w fun e w'=>e= .returned (.tuple #[.int .u64 ((x*y/18446744073709551616:Nat):Int),.int .u64 ((x*y%18446744073709551616:Nat):Int)])/\w'=w:=Any.bits_Mul64 Tryz.ark x y hx hy w
def Tryz.YU:xM:=⟨fun | 105=>171 | 212=>208 | 99=>180 | 165=>209 | 166=>172 | 170=>210 | 169=>173 | 263=>232 | 264=>186 | 206=>212 | 240=>211 | 241=>233 | 276=>234 | 277=>252 | n=>n,fun | 9=>9 | 3=>3 | 4=>4 | 20=>20 | 0=>0 | 46=>212 | 109=>232 | 5=>5 | 72=>199 | 76=>202 | 51=>251 | 146=>252 | 53=>164 | 148=>213 | 70=>196 | 37=>197 | 75=>201 | 127=>235 | 164=>254 | 80=>149 | n=>n,fun | n=>n⟩
def Tryz.arl:ybR Tryz.prog Tryz.YU:=by
 repeat' first | kernel_rfl | (intro w;kernel_rfl) | decide | constructor
def Tryz.ala:Builder.Extra Tryz.prog Tryz.YU:=by
 repeat' first | kernel_rfl | (intro w;kernel_rfl) | decide | constructor
open Go.RowKit Go.Lib in
def Tryz.strings_Repeat (s:ByteArray) (c:Nat) (w:yi) (hc:c<=9223372036854775807) (hlen:s.size*c<=140737488355328):
  xV Tryz.prog 171 #[.string s,.int .i64 c] w fun e w'=>e= .returned (.string ⟨(Lib.repeatL s.data.toList c).toArray⟩)/\Below w.heap.size w w':=Any.strings_Repeat Tryz.arl Tryz.ala s c w hc hlen
def Tryz.alu:xM:=⟨fun | 25=>224 | n=>n,fun | 22=>164 | n=>n,fun | n=>n⟩
def Tryz.apm:ybt Tryz.prog Tryz.alu:=by
 repeat' first | kernel_rfl | (intro w;kernel_rfl) | decide | constructor
def Tryz.alv:xM:=⟨fun | 26=>226 | n=>n,fun | 22=>164 | n=>n,fun | n=>n⟩
def Tryz.apo:ybu Tryz.prog Tryz.alv:=by
 repeat' first | kernel_rfl | (intro w;kernel_rfl) | decide | constructor
def Tryz.bits_Add64 (x y c:Nat) (hc:c<=1) (w:yi):
  (callFunc 224 #[.int .u64 x,.int .u64 y,.int .u64 c]).run Tryz.prog w=
   .ok (.value (.tuple #[.int .u64 (((x+y+c)%18446744073709551616:Nat):Int),.int .u64 (((x+y+c)/18446744073709551616:Nat):Int)])) w:=Any7.bits_Add64 Tryz.apm x y c hc w
def Tryz.bits_Sub64 (x y b:Nat) (hb:b<=1) (w:yi):
  (callFunc 226 #[.int .u64 x,.int .u64 y,.int .u64 b]).run Tryz.prog w=
   .ok (.value (.tuple #[.int .u64 (((x+18446744073709551616-y-b)%18446744073709551616:Nat):Int),.int .u64 ((if x<y+b then 1 else 0:Nat):Int)])) w:=Any7.bits_Sub64 Tryz.apo x y b hb w
open Go.RowKit in
def Tryz.alw (s Gx:ByteArray) (w:yi) (hs:s.size<=9223372036854775807) (Aq:Gx.size<4294967281) (atu:∀(j:Nat) b,Gx.data.toList[j]? =some b->b.toNat<128):
  xV Tryz.prog 179 #[.string s,.string Gx] w fun e w'=>e= .returned (.string ⟨(Lib.trimS s.data.toList Gx.data.toList).toArray⟩)/\Below w.heap.size w w':=
 Any.strings_Trim_laid Tryz.ara (by kernel_rfl) s Gx w hs Aq atu
def Tryz.s1_3 (w:yi) (h:w.ShapedOpen Tryz.prog):∃m,w.cell? ⟨3,0,none⟩=some (.int .i64 m):=Tryz.apl.s1_3 w h
def Tryz.YV:xM:=⟨fun | 166=>172 | 240=>211 | 276=>234 | n=>n,fun | 20=>20 | 37=>197 | 70=>196 | 72=>199 | 75=>201 | 80=>149 | 164=>254 | n=>n,fun | n=>n⟩
def Tryz.arm:ybS Tryz.prog Tryz.YV:=by
 repeat' first | kernel_rfl | (intro w;kernel_rfl) | decide | constructor
def Tryz.alb:Builder.Extra Tryz.prog Tryz.YV:=by
 repeat' first | kernel_rfl | (intro w;kernel_rfl) | decide | constructor
open Go.RowKit in
def Tryz.Builder_WriteString (B b:Nat) (bs:List Value) (s:ByteArray) (w:yi) (h:Lib.IsBuilder 199 5 B b bs w) (hlen:bs.length+s.size<=140737488355328) (Xv:B<=w.heap.size):
  xV Tryz.prog 172 #[.pointer (some ⟨b,0,none⟩),.string s] w fun e w'=>e= .returned (.tuple #[.int .i64 s.size,.nilIface])/\(Lib.BuilderAt 199 5 B b (.pointer (some ⟨b,0,none⟩)) (bs++Lib.strCells s) w'/\Below B w w'):=Any.Builder_WriteString Tryz.arm Tryz.alb B b bs s w h hlen Xv
end Go.Proofs
