import Derived.Shelf.Small.Bits
import Derived.Shelf.Small.Wraps
import Derived.Shelf.Strconv.Atoi
import Derived.Shelf.LaysM
import Derived.Shelf.Strconv.Itoa3
import Derived.Shelf.Strings.Cut
import Derived.Shelf.Strings.Prefix
import Derived.Shelf.Bits.Mul64
import Derived.Shelf.Strings.Repeat
import Derived.Shelf.Strings.SlTrimAscii
import Derived.Shelf.Spec.BitsCarry
import Derived.Shelf.Strings.Builder1
import Derived.Test.YtpdlhopnhojpjaaGreatDoorProg
set_option linter.all false
set_option maxRecDepth 100000
open Go renaming Calls→wh,World→ym
open Go.Proofs.Lays renaming n101→ybJ,n103→ybC,n105→ybL,n129→ybE,n134→ybB,n145→ybH,n160→ybA,n166→ybM,n169→ybz,n172→ybD,n264→ybK,n283→ybF,n285→ybG,n99→ybI
open Go.Proofs.Lays7 renaming n25→ybq,n26→ybr
open Go.Proofs.LaysM renaming n145→ybp,n171→ybo,n284→ybn
open Go.Shelf renaming Ren→xN
namespace Go.Proofs
open Go.Shelf
def Tryz.YY:xN:=⟨fun | 169=>235 | n=>n,fun | 70=>261 | 9=>9 | 0=>0 | 72=>264 | 37=>262 | 127=>286 | 3=>3 | 5=>5 | n=>n,fun | n=>n⟩
def Tryz.arl:ybz Tryz.prog Tryz.YY:=by
 repeat' first | kernel_rfl | (intro w;kernel_rfl) | decide | constructor
def Tryz.alj:Builder.Extra Tryz.prog Tryz.YY:=by
 repeat' first | kernel_rfl | (intro w;kernel_rfl) | decide | constructor
open Go.RowKit in
def Tryz.Builder_String_any (B b:Nat) (l:List UInt8) (w:ym) (h:Lib.IsBuilder 264 5 B b (Lib.byteCells l) w) (Xi:B<=w.heap.size):
  wh Tryz.prog 235 #[.pointer (some ⟨b,0,none⟩)] w fun e w'=>e= .returned (.string ⟨l.toArray⟩)/\Below B w w':=Any.Builder_String_any Tryz.arl Tryz.alj B b l w h Xi
def Tryz.alP:xN:=⟨fun | 160=>201 | 232=>242 | 231=>241 | 227=>243 | 234=>245 | 233=>244 | 236=>247 | 235=>246 | 228=>269 | 271=>272 | 151=>271 | 197=>270 | 120=>291 | 152=>290 | 260=>289 | 137=>300 | 119=>301 | 224=>267 | 225=>266 | 217=>265 | 266=>287 | n=>n,fun | 9=>9 | 4=>4 | 3=>3 | 5=>5 | 117=>272 | 116=>271 | 0=>0 | 124=>275 | 21=>21 | 105=>289 | 46=>277 | 119=>321 | 139=>324 | 138=>323 | n=>n,fun | 3=>6 | 4=>7 | n=>n⟩
def Tryz.arm:ybA Tryz.prog Tryz.alP:=by
 repeat' first | kernel_rfl | (intro w;kernel_rfl) | decide | constructor
def Tryz.alQ:xN:=⟨fun | 134=>257 | 129=>278 | n=>n,fun | 53=>243 | 3=>3 | 4=>4 | 46=>277 | 5=>5 | 9=>9 | n=>n,fun | n=>n⟩
def Tryz.arn:ybB Tryz.prog Tryz.alQ:=by
 repeat' first | kernel_rfl | (intro w;kernel_rfl) | decide | constructor
def Tryz.bits_LeadingZeros64 (x:Int) (w:ym) (h0:0<=x) (h1:x<=18446744073709551615):
  wh Tryz.prog 257 #[.int .u64 x] w fun e w'=>e= .returned (.int .i64 (64-(Lib.bitLen x.toNat:Int)))/\w'=w:=Any.bits_LeadingZeros64 Tryz.arn x w h0 h1
def Tryz.alR:xN:=⟨fun | 103=>144 | 210=>199 | 206=>239 | n=>n,fun | 9=>9 | 4=>4 | 24=>182 | 3=>3 | n=>n,fun | n=>n⟩
def Tryz.aro:ybC Tryz.prog Tryz.alR:=by
 repeat' first | kernel_rfl | (intro w;kernel_rfl) | decide | constructor
open Go.RowKit in
def Tryz.strings_CutPrefix (s p:ByteArray) (w:ym):
  wh Tryz.prog 144 #[.string s,.string p] w fun e w'=>e= .returned (.tuple #[.string ⟨(Lib.trimPrefix s.data.toList p.data.toList).toArray⟩,.bool (Lib.hasPrefix s.data.toList p.data.toList)])/\w'=w:=Any.strings_CutPrefix Tryz.aro s p w
def Tryz.alS:xN:=⟨fun | 172=>207 | 244=>249 | 245=>250 | 247=>273 | 279=>274 | 280=>275 | 281=>276 | 282=>277 | 287=>292 | 316=>293 | 171=>230 | 205=>294 | 321=>302 | 322=>303 | 243=>255 | 246=>279 | 283=>280 | 284=>281 | 285=>282 | 286=>283 | 129=>278 | 317=>295 | 318=>296 | 319=>297 | 320=>298 | 337=>304 | 338=>305 | n=>n,fun | 9=>9 | 3=>3 | 75=>235 | 76=>236 | 4=>4 | 5=>5 | 167=>292 | 37=>262 | 0=>0 | 85=>293 | 2=>2 | 168=>295 | 53=>243 | 175=>310 | 46=>277 | 210=>314 | 127=>286 | 145=>329 | 143=>327 | 21=>21 | 171=>299 | 173=>301 | 212=>317 | 51=>303 | 20=>20 | 213=>318 | 232=>331 | 233=>332 | 80=>220 | n=>n,fun | 15=>3 | 16=>4 | 17=>5 | 18=>8 | 19=>9 | n=>n⟩
def Tryz.arp:ybD Tryz.prog Tryz.alS:=by
 repeat' first | kernel_rfl | (intro w;kernel_rfl) | decide | constructor
open Go.RowKit in
def Tryz.strconv_Atoi (s:ByteArray) (n:Int) (hl:s.size<=18) (h:Lib.atoi s.data.toList=some n) (w:ym):
  wh Tryz.prog 207 #[.string s] w fun e w'=>e= .returned (.tuple #[.int .i64 n,.nilIface])/\∃t,w'=Lib.bytesWorld w 5 t:=Any.strconv_Atoi Tryz.arp s n hl h w
def Tryz.alT:xN:=⟨fun | 129=>278 | n=>n,fun | 53=>243 | 3=>3 | 4=>4 | 46=>277 | 5=>5 | 9=>9 | n=>n,fun | n=>n⟩
def Tryz.arq:ybE Tryz.prog Tryz.alT:=by
 repeat' first | kernel_rfl | (intro w;kernel_rfl) | decide | constructor
def Tryz.bits_Len64 (x:Int) (w:ym) (h0:0<=x) (h1:x<=18446744073709551615):
  wh Tryz.prog 278 #[.int .u64 x] w fun e w'=>e= .returned (.int .i64 (Lib.bitLen x.toNat))/\w'=w:=Any.bits_Len64 Tryz.arq x w h0 h1
def Tryz.alU:xN:=⟨fun | 283=>280 | n=>n,fun | 3=>3 | 9=>9 | 4=>4 | n=>n,fun | n=>n⟩
def Tryz.ars:ybF Tryz.prog Tryz.alU:=by
 repeat' first | kernel_rfl | (intro w;kernel_rfl) | decide | constructor
open Go.Lib in
def Tryz.internal_strconv_small (i:Nat) (h:i<100) (w:ym):
  wh Tryz.prog 280 #[.int .i64 i] w fun e w'=>e= .returned (.string ⟨(Lib.decDigits i).toArray⟩)/\w'=w:=Any.internal_strconv_small Tryz.ars i h w
def Tryz.alA:xN:=⟨fun | 284=>281 | 129=>278 | 317=>295 | 318=>296 | n=>n,fun | 53=>243 | 3=>3 | 212=>317 | 0=>0 | 4=>4 | 46=>277 | 5=>5 | 9=>9 | n=>n,fun | 17=>5 | n=>n⟩
def Tryz.apv:ybn Tryz.prog Tryz.alA:=by
 repeat' first | kernel_rfl | (intro w;kernel_rfl) | decide | constructor
open Go.Lib in
def Tryz.internal_strconv_numDigits (u:Nat) (h1:1<=u) (h2:u<18446744073709551616) (w:ym) (Ea:Lib.TabIs Tryz.prog w "internal/strconv.uint64pow10" .u64 Lib.pow10Tab):
  wh Tryz.prog 281 #[.int .u64 u] w fun e w'=>e= .returned (.int .i64 (Lib.nDigits u))/\w'=w:=Any.internal_strconv_numDigits Tryz.apv u h1 h2 w Ea
def Tryz.alV:xN:=⟨fun | 285=>282 | n=>n,fun | 37=>262 | 53=>243 | 3=>3 | 4=>4 | 51=>303 | 9=>9 | 5=>5 | 0=>0 | n=>n,fun | n=>n⟩
def Tryz.art:ybG Tryz.prog Tryz.alV:=by
 repeat' first | kernel_rfl | (intro w;kernel_rfl) | decide | constructor
open Go.RowKit Go.Sort Go.Lib in
def Tryz.internal_strconv_formatBase10 (ef off cap:Nat) (u:Nat) (d:Array UInt8) (w:ym) (hH:Holds (fun (b:UInt8)=>Value.int .u8 (b.toNat:Int)) w ef off d) (hu:u<10^d.size) (Eb:u<18446744073709551616) (fg:d.size<4611686018427387904):
  wh Tryz.prog 282 #[.slice (some ⟨ef,off,none⟩) d.size cap,.int .u64 u] w fun e w'=>
   e= .returned (.tuple #[])/\∃(n v':Nat) (dk:Array UInt8),w'=(putRow (fun (b:UInt8)=>Value.int .u8 (b.toNat:Int)) w ef off dk).drewN n/\FmtInv d.size u 0 v' dk:=Any.internal_strconv_formatBase10 Tryz.art ef off cap u d w hH hu Eb fg
def Tryz.alB:xN:=⟨fun | 171=>230 | 243=>255 | 246=>279 | 283=>280 | 284=>281 | 285=>282 | 286=>283 | 129=>278 | 317=>295 | 318=>296 | 319=>297 | 320=>298 | 337=>304 | 338=>305 | n=>n,fun | 3=>3 | 9=>9 | 2=>2 | 4=>4 | 171=>299 | 0=>0 | 53=>243 | 37=>262 | 5=>5 | 173=>301 | 212=>317 | 51=>303 | 20=>20 | 213=>318 | 46=>277 | 232=>331 | 233=>332 | n=>n,fun | 17=>5 | 18=>8 | 19=>9 | n=>n⟩
def Tryz.apw:ybo Tryz.prog Tryz.alB:=by
 repeat' first | kernel_rfl | (intro w;kernel_rfl) | decide | constructor
open Go.RowKit Go.Sort Go.Lib in
def Tryz.strconv_Itoa (n:Int) (h0: -9223372036854775808<=n) (h1:n<=9223372036854775807) (w:ym) (Ea:Lib.TabIs Tryz.prog w "internal/strconv.uint64pow10" .u64 Lib.pow10Tab):
  wh Tryz.prog 230 #[.int .i64 n] w fun e w'=>e= .returned (.string ⟨(Lib.itoa n).toArray⟩)/\∃k os,w'=grow (w.drewN k) os:=Any.strconv_Itoa Tryz.apw n h0 h1 w Ea
def Tryz.alW:xN:=⟨fun | 145=>145 | 220=>200 | 219=>240 | 217=>265 | 225=>266 | 224=>267 | 267=>268 | 266=>287 | 314=>288 | n=>n,fun | 9=>9 | 4=>4 | 59=>184 | 3=>3 | 5=>5 | 46=>277 | 146=>304 | 51=>303 | n=>n,fun | 1=>0 | n=>n⟩
def Tryz.aru:ybH Tryz.prog Tryz.alW:=by
 repeat' first | kernel_rfl | (intro w;kernel_rfl) | decide | constructor
open Go.RowKit Go.Lib in
def Tryz.strings_Cut (s sep:ByteArray) (m:Int) (w:ym) (hs:s.size<4294967281) (hm:w.cell? ⟨0,0,none⟩=some (.int .i64 m)):
  wh Tryz.prog 145 #[.string s,.string sep] w fun e w'=>e= .returned (.tuple #[.string ⟨(Lib.cut s.data.toList sep.data.toList).1.toArray⟩,.string ⟨(Lib.cut s.data.toList sep.data.toList).2.1.toArray⟩,.bool (Lib.cut s.data.toList sep.data.toList).2.2])/\∃n,w'=w.drewN n:=Any.strings_Cut Tryz.aru s sep m w hs hm
def Tryz.alC:xN:=⟨fun | 145=>145 | 220=>200 | 219=>240 | 217=>265 | 225=>266 | 224=>267 | 267=>268 | 266=>287 | 314=>288 | n=>n,fun | 9=>9 | 4=>4 | 59=>184 | 3=>3 | 5=>5 | 46=>277 | 146=>304 | 51=>303 | n=>n,fun | 1=>0 | n=>n⟩
def Tryz.apx:ybp Tryz.prog Tryz.alC:=by
 repeat' first | kernel_rfl | (intro w;kernel_rfl) | exact fun w h=>Go.Proofs.cell_of_shapedOpen_int (zero:=#[.int .i64 0]) (t:=3) h (of_decide_eq_true (by kernel_rfl)) (by kernel_rfl) rfl (by kernel_rfl) (by kernel_rfl) Tryz.underlying3 | decide | constructor
def Tryz.ams:xN:=⟨fun | 99=>205 | 206=>239 | n=>n,fun | 9=>9 | 4=>4 | 3=>3 | n=>n,fun | n=>n⟩
def Tryz.atV:ybI Tryz.prog Tryz.ams:=by
 repeat' first | kernel_rfl | (intro w;kernel_rfl) | decide | constructor
open Go.RowKit Go.Lib in
def Tryz.strings_HasPrefix (s p:ByteArray) (w:ym):
  wh Tryz.prog 205 #[.string s,.string p] w fun e w'=>e= .returned (.bool (Lib.hasPrefix s.data.toList p.data.toList))/\w'=w:=Any.strings_HasPrefix Tryz.atV s p w
def Tryz.alX:xN:=⟨fun | 101=>206 | 208=>248 | 206=>239 | n=>n,fun | 9=>9 | 4=>4 | 3=>3 | n=>n,fun | n=>n⟩
def Tryz.arv:ybJ Tryz.prog Tryz.alX:=by
 repeat' first | kernel_rfl | (intro w;kernel_rfl) | decide | constructor
open Go.RowKit Go.Lib in
def Tryz.strings_TrimPrefix (s p:ByteArray) (w:ym):
  wh Tryz.prog 206 #[.string s,.string p] w fun e w'=>e= .returned (.string ⟨(Lib.trimPrefix s.data.toList p.data.toList).toArray⟩)/\w'=w:=Any.strings_TrimPrefix Tryz.arv s p w
def Tryz.alY:xN:=⟨fun | 264=>217 | n=>n,fun | 53=>243 | 46=>277 | n=>n,fun | n=>n⟩
def Tryz.arw:ybK Tryz.prog Tryz.alY:=by
 repeat' first | kernel_rfl | (intro w;kernel_rfl) | decide | constructor
open Go.RowKit Go.Lib in
def Tryz.bits_Mul64 (x y:Nat) (hx:x<18446744073709551616) (hy:y<18446744073709551616) (w:ym):
  wh Tryz.prog 217 #[.int .u64 x,.int .u64 y] w fun e w'=>e= .returned (.tuple #[.int .u64 ((x*y/18446744073709551616:Nat):Int),.int .u64 ((x*y%18446744073709551616:Nat):Int)])/\w'=w:=Any.bits_Mul64 Tryz.arw x y hx hy w
def Tryz.YZ:xN:=⟨fun | 105=>233 | 212=>261 | 99=>205 | 165=>262 | 166=>234 | 170=>263 | 169=>235 | 263=>284 | 264=>217 | 206=>239 | 240=>264 | 241=>285 | 276=>286 | 277=>299 | n=>n,fun | 9=>9 | 3=>3 | 4=>4 | 20=>20 | 0=>0 | 46=>277 | 109=>283 | 5=>5 | 72=>264 | 76=>236 | 51=>303 | 146=>304 | 53=>243 | 148=>244 | 70=>261 | 37=>262 | 75=>235 | 127=>286 | 164=>306 | 80=>220 | n=>n,fun | n=>n⟩
def Tryz.arx:ybL Tryz.prog Tryz.YZ:=by
 repeat' first | kernel_rfl | (intro w;kernel_rfl) | decide | constructor
def Tryz.alk:Builder.Extra Tryz.prog Tryz.YZ:=by
 repeat' first | kernel_rfl | (intro w;kernel_rfl) | decide | constructor
open Go.RowKit Go.Lib in
def Tryz.strings_Repeat (s:ByteArray) (c:Nat) (w:ym) (hc:c<=9223372036854775807) (hlen:s.size*c<=140737488355328):
  wh Tryz.prog 233 #[.string s,.int .i64 c] w fun e w'=>e= .returned (.string ⟨(Lib.repeatL s.data.toList c).toArray⟩)/\Below w.heap.size w w':=Any.strings_Repeat Tryz.arx Tryz.alk s c w hc hlen
def Tryz.alD:xN:=⟨fun | 25=>251 | n=>n,fun | 22=>243 | n=>n,fun | n=>n⟩
def Tryz.apy:ybq Tryz.prog Tryz.alD:=by
 repeat' first | kernel_rfl | (intro w;kernel_rfl) | decide | constructor
def Tryz.alE:xN:=⟨fun | 26=>253 | n=>n,fun | 22=>243 | n=>n,fun | n=>n⟩
def Tryz.apz:ybr Tryz.prog Tryz.alE:=by
 repeat' first | kernel_rfl | (intro w;kernel_rfl) | decide | constructor
def Tryz.bits_Add64 (x y c:Nat) (hc:c<=1) (w:ym):
  (callFunc 251 #[.int .u64 x,.int .u64 y,.int .u64 c]).run Tryz.prog w=
   .ok (.value (.tuple #[.int .u64 (((x+y+c)%18446744073709551616:Nat):Int),.int .u64 (((x+y+c)/18446744073709551616:Nat):Int)])) w:=Any7.bits_Add64 Tryz.apy x y c hc w
def Tryz.bits_Sub64 (x y b:Nat) (hb:b<=1) (w:ym):
  (callFunc 253 #[.int .u64 x,.int .u64 y,.int .u64 b]).run Tryz.prog w=
   .ok (.value (.tuple #[.int .u64 (((x+18446744073709551616-y-b)%18446744073709551616:Nat):Int),.int .u64 ((if x<y+b then 1 else 0:Nat):Int)])) w:=Any7.bits_Sub64 Tryz.apz x y b hb w
open Go.RowKit in
def Tryz.alF (s JS:ByteArray) (w:ym) (hs:s.size<=9223372036854775807) (fo:JS.size<4294967281) (atW:∀(j:Nat) b,JS.data.toList[j]? =some b->b.toNat<128):
  wh Tryz.prog 201 #[.string s,.string JS] w fun e w'=>e= .returned (.string ⟨(Lib.trimS s.data.toList JS.data.toList).toArray⟩)/\Below w.heap.size w w':=
 Any.strings_Trim_laid Tryz.arm (by kernel_rfl) s JS w hs fo atW
def Tryz.s1_3 (w:ym) (h:w.ShapedOpen Tryz.prog):∃m,w.cell? ⟨0,0,none⟩=some (.int .i64 m):=Tryz.apx.s1_3 w h
def Tryz.Y0:xN:=⟨fun | 166=>234 | 240=>264 | 276=>286 | n=>n,fun | 20=>20 | 37=>262 | 70=>261 | 72=>264 | 75=>235 | 80=>220 | 164=>306 | n=>n,fun | n=>n⟩
def Tryz.ary:ybM Tryz.prog Tryz.Y0:=by
 repeat' first | kernel_rfl | (intro w;kernel_rfl) | decide | constructor
def Tryz.alm:Builder.Extra Tryz.prog Tryz.Y0:=by
 repeat' first | kernel_rfl | (intro w;kernel_rfl) | decide | constructor
open Go.RowKit in
def Tryz.Builder_WriteString (B b:Nat) (bs:List Value) (s:ByteArray) (w:ym) (h:Lib.IsBuilder 264 5 B b bs w) (hlen:bs.length+s.size<=140737488355328) (Xi:B<=w.heap.size):
  wh Tryz.prog 234 #[.pointer (some ⟨b,0,none⟩),.string s] w fun e w'=>e= .returned (.tuple #[.int .i64 s.size,.nilIface])/\(Lib.BuilderAt 264 5 B b (.pointer (some ⟨b,0,none⟩)) (bs++Lib.strCells s) w'/\Below B w w'):=Any.Builder_WriteString Tryz.ary Tryz.alm B b bs s w h hlen Xi
end Go.Proofs
