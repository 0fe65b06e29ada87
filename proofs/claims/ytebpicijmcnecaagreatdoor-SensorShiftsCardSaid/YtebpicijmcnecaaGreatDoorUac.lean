import Derived.Shelf.Small.Bits
import Derived.Shelf.Small.Wraps
import Derived.Shelf.Strconv.Atoi
import Derived.Shelf.LaysM
import Derived.Shelf.Strconv.Itoa3
import Derived.Shelf.Strings.Cut
import Derived.Shelf.Strings.Prefix
import Derived.Shelf.Bits.Mul64
import Derived.Shelf.Strings.Repeat
import Derived.Shelf.Strings.SlTrimAscii
import Derived.Shelf.Spec.BitsCarry
import Derived.Shelf.Strings.Builder1
import Derived.Test.YtebpicijmcnecaaGreatDoorProg
set_option linter.all false
set_option maxRecDepth 100000
open Go renaming Calls->wg,World->yi
open Go.Proofs.Lays renaming n101->ybV,n103->ybO,n105->ybX,n129->ybQ,n134->ybN,n145->ybT,n160->ybM,n166->ybY,n169->ybL,n172->ybP,n264->ybW,n283->ybR,n285->ybS,n99->ybU
open Go.Proofs.Lays7 renaming n25->ybC,n26->ybD
open Go.Proofs.LaysM renaming n145->ybB,n171->ybA,n284->ybz
open Go.Shelf renaming Ren->xT
namespace Go.Proofs
open Go.Shelf
def Tryz.WI:xT:=⟨fun | 169=>245 | n=>n,fun | 70=>300 | 9=>9 | 0=>0 | 72=>302 | 37=>45 | 127=>328 | 3=>3 | 5=>5 | n=>n,fun | n=>n⟩
def Tryz.amI:ybL Tryz.prog Tryz.WI:=by
 repeat' first | kernel_rfl | (intro w;kernel_rfl) | decide | constructor
def Tryz.agA:Builder.Extra Tryz.prog Tryz.WI:=by
 repeat' first | kernel_rfl | (intro w;kernel_rfl) | decide | constructor
open Go.RowKit in
def Tryz.Builder_String_any(B b:Nat)(l:List UInt8)(w:yi)(h:Lib.IsBuilder 302 5 B b (Lib.byteCells l) w)(UP:B<=w.heap.size):
  wg Tryz.prog 245 #[.pointer (some ⟨b,0,none⟩)] w fun e w'=>e=.returned (.string ⟨l.toArray⟩)/\Below B w w':=Any.Builder_String_any Tryz.amI Tryz.agA B b l w h UP
def Tryz.ahc:xT:=⟨fun | 160=>249 | 232=>289 | 231=>288 | 227=>290 | 234=>292 | 233=>291 | 236=>294 | 235=>293 | 228=>316 | 271=>319 | 151=>318 | 197=>317 | 120=>332 | 152=>331 | 260=>330 | 137=>337 | 119=>338 | 224=>297 | 225=>296 | 217=>295 | 266=>320 | n=>n,fun | 9=>9 | 4=>4 | 3=>3 | 5=>5 | 117=>337 | 116=>336 | 0=>0 | 124=>340 | 21=>21 | 105=>364 | 46=>309 | 119=>385 | 139=>388 | 138=>387 | n=>n,fun | 3=>10 | 4=>11 | n=>n⟩
def Tryz.amJ:ybM Tryz.prog Tryz.ahc:=by
 repeat' first | kernel_rfl | (intro w;kernel_rfl) | decide | constructor
def Tryz.ahd:xT:=⟨fun | 134=>273 | 129=>268 | n=>n,fun | 53=>260 | 3=>3 | 4=>4 | 46=>309 | 5=>5 | 9=>9 | n=>n,fun | n=>n⟩
def Tryz.amK:ybN Tryz.prog Tryz.ahd:=by
 repeat' first | kernel_rfl | (intro w;kernel_rfl) | decide | constructor
def Tryz.bits_LeadingZeros64(x:Int)(w:yi)(h0:0<=x)(h1:x<=18446744073709551615):
  wg Tryz.prog 273 #[.int .u64 x] w fun e w'=>e=.returned (.int .i64 (64-(Lib.bitLen x.toNat:Int)))/\w'=w:=Any.bits_LeadingZeros64 Tryz.amK x w h0 h1
def Tryz.ahe:xT:=⟨fun | 103=>180 | 210=>248 | 206=>252 | n=>n,fun | 9=>9 | 4=>4 | 24=>246 | 3=>3 | n=>n,fun | n=>n⟩
def Tryz.amL:ybO Tryz.prog Tryz.ahe:=by
 repeat' first | kernel_rfl | (intro w;kernel_rfl) | decide | constructor
open Go.RowKit in
def Tryz.strings_CutPrefix(s p:ByteArray)(w:yi):
  wg Tryz.prog 180 #[.string s,.string p] w fun e w'=>e=.returned (.tuple #[.string ⟨(Lib.trimPrefix s.data.toList p.data.toList).toArray⟩,.bool (Lib.hasPrefix s.data.toList p.data.toList)])/\w'=w:=Any.strings_CutPrefix Tryz.amL s p w
def Tryz.ahf:xT:=⟨fun | 172=>188 | 244=>254 | 245=>255 | 247=>299 | 279=>300 | 280=>301 | 281=>302 | 282=>303 | 287=>322 | 316=>323 | 171=>240 | 205=>324 | 321=>333 | 322=>334 | 243=>274 | 246=>307 | 283=>308 | 284=>309 | 285=>310 | 286=>311 | 129=>268 | 317=>325 | 318=>326 | 319=>327 | 320=>328 | 337=>335 | 338=>336 | n=>n,fun | 9=>9 | 3=>3 | 75=>252 | 76=>253 | 4=>4 | 5=>5 | 167=>343 | 37=>45 | 0=>0 | 85=>344 | 2=>2 | 168=>346 | 53=>260 | 175=>368 | 46=>309 | 210=>372 | 127=>328 | 145=>383 | 143=>381 | 21=>21 | 171=>354 | 173=>356 | 212=>322 | 51=>358 | 20=>20 | 213=>375 | 232=>390 | 233=>391 | 80=>231 | n=>n,fun | 15=>7 | 16=>8 | 17=>9 | 18=>12 | 19=>13 | n=>n⟩
def Tryz.amM:ybP Tryz.prog Tryz.ahf:=by
 repeat' first | kernel_rfl | (intro w;kernel_rfl) | decide | constructor
open Go.RowKit in
def Tryz.strconv_Atoi(s:ByteArray)(n:Int)(hl:s.size<=18)(h:Lib.atoi s.data.toList=some n)(w:yi):
  wg Tryz.prog 188 #[.string s] w fun e w'=>e=.returned (.tuple #[.int .i64 n,.nilIface])/\∃t,w'=Lib.bytesWorld w 5 t:=Any.strconv_Atoi Tryz.amM s n hl h w
def Tryz.ahg:xT:=⟨fun | 129=>268 | n=>n,fun | 53=>260 | 3=>3 | 4=>4 | 46=>309 | 5=>5 | 9=>9 | n=>n,fun | n=>n⟩
def Tryz.amN:ybQ Tryz.prog Tryz.ahg:=by
 repeat' first | kernel_rfl | (intro w;kernel_rfl) | decide | constructor
def Tryz.bits_Len64(x:Int)(w:yi)(h0:0<=x)(h1:x<=18446744073709551615):
  wg Tryz.prog 268 #[.int .u64 x] w fun e w'=>e=.returned (.int .i64 (Lib.bitLen x.toNat))/\w'=w:=Any.bits_Len64 Tryz.amN x w h0 h1
def Tryz.ahh:xT:=⟨fun | 283=>308 | n=>n,fun | 3=>3 | 9=>9 | 4=>4 | n=>n,fun | n=>n⟩
def Tryz.amO:ybR Tryz.prog Tryz.ahh:=by
 repeat' first | kernel_rfl | (intro w;kernel_rfl) | decide | constructor
open Go.Lib in
def Tryz.internal_strconv_small(i:Nat)(h:i<100)(w:yi):
  wg Tryz.prog 308 #[.int .i64 i] w fun e w'=>e=.returned (.string ⟨(Lib.decDigits i).toArray⟩)/\w'=w:=Any.internal_strconv_small Tryz.amO i h w
def Tryz.agU:xT:=⟨fun | 284=>309 | 129=>268 | 317=>325 | 318=>326 | n=>n,fun | 53=>260 | 3=>3 | 212=>322 | 0=>0 | 4=>4 | 46=>309 | 5=>5 | 9=>9 | n=>n,fun | 17=>9 | n=>n⟩
def Tryz.akN:ybz Tryz.prog Tryz.agU:=by
 repeat' first | kernel_rfl | (intro w;kernel_rfl) | decide | constructor
open Go.Lib in
def Tryz.internal_strconv_numDigits(u:Nat)(h1:1<=u)(h2:u<18446744073709551616)(w:yi)(Dl:Lib.TabIs Tryz.prog w "internal/strconv.uint64pow10" .u64 Lib.pow10Tab):
  wg Tryz.prog 309 #[.int .u64 u] w fun e w'=>e=.returned (.int .i64 (Lib.nDigits u))/\w'=w:=Any.internal_strconv_numDigits Tryz.akN u h1 h2 w Dl
def Tryz.ahi:xT:=⟨fun | 285=>310 | n=>n,fun | 37=>45 | 53=>260 | 3=>3 | 4=>4 | 51=>358 | 9=>9 | 5=>5 | 0=>0 | n=>n,fun | n=>n⟩
def Tryz.amP:ybS Tryz.prog Tryz.ahi:=by
 repeat' first | kernel_rfl | (intro w;kernel_rfl) | decide | constructor
open Go.RowKit Go.Sort Go.Lib in
def Tryz.internal_strconv_formatBase10(dz off cap:Nat)(u:Nat)(d:Array UInt8)(w:yi)(hH:Holds (fun (b:UInt8)=>Value.int .u8 (b.toNat:Int)) w dz off d)(hu:u<10^d.size)(Dm:u<18446744073709551616)(dR:d.size<4611686018427387904):
  wg Tryz.prog 310 #[.slice (some ⟨dz,off,none⟩) d.size cap,.int .u64 u] w fun e w'=>
   e=.returned (.tuple #[])/\∃(n v':Nat) (dk:Array UInt8),w'=(putRow (fun (b:UInt8)=>Value.int .u8 (b.toNat:Int)) w dz off dk).drewN n/\FmtInv d.size u 0 v' dk:=Any.internal_strconv_formatBase10 Tryz.amP dz off cap u d w hH hu Dm dR
def Tryz.agV:xT:=⟨fun | 171=>240 | 243=>274 | 246=>307 | 283=>308 | 284=>309 | 285=>310 | 286=>311 | 129=>268 | 317=>325 | 318=>326 | 319=>327 | 320=>328 | 337=>335 | 338=>336 | n=>n,fun | 3=>3 | 9=>9 | 2=>2 | 4=>4 | 171=>354 | 0=>0 | 53=>260 | 37=>45 | 5=>5 | 173=>356 | 212=>322 | 51=>358 | 20=>20 | 213=>375 | 46=>309 | 232=>390 | 233=>391 | n=>n,fun | 17=>9 | 18=>12 | 19=>13 | n=>n⟩
def Tryz.akO:ybA Tryz.prog Tryz.agV:=by
 repeat' first | kernel_rfl | (intro w;kernel_rfl) | decide | constructor
open Go.RowKit Go.Sort Go.Lib in
def Tryz.strconv_Itoa(n:Int)(h0: -9223372036854775808<=n)(h1:n<=9223372036854775807)(w:yi)(Dl:Lib.TabIs Tryz.prog w "internal/strconv.uint64pow10" .u64 Lib.pow10Tab):
  wg Tryz.prog 240 #[.int .i64 n] w fun e w'=>e=.returned (.string ⟨(Lib.itoa n).toArray⟩)/\∃k os,w'=grow (w.drewN k) os:=Any.strconv_Itoa Tryz.akO n h0 h1 w Dl
def Tryz.ahj:xT:=⟨fun | 145=>113 | 220=>185 | 219=>251 | 217=>295 | 225=>296 | 224=>297 | 267=>298 | 266=>320 | 314=>321 | n=>n,fun | 9=>9 | 4=>4 | 59=>184 | 3=>3 | 5=>5 | 46=>309 | 146=>359 | 51=>358 | n=>n,fun | 1=>4 | n=>n⟩
def Tryz.amQ:ybT Tryz.prog Tryz.ahj:=by
 repeat' first | kernel_rfl | (intro w;kernel_rfl) | decide | constructor
open Go.RowKit Go.Lib in
def Tryz.strings_Cut(s sep:ByteArray)(m:Int)(w:yi)(hs:s.size<4294967281)(hm:w.cell? ⟨4,0,none⟩=some (.int .i64 m)):
  wg Tryz.prog 113 #[.string s,.string sep] w fun e w'=>e=.returned (.tuple #[.string ⟨(Lib.cut s.data.toList sep.data.toList).1.toArray⟩,.string ⟨(Lib.cut s.data.toList sep.data.toList).2.1.toArray⟩,.bool (Lib.cut s.data.toList sep.data.toList).2.2])/\∃n,w'=w.drewN n:=Any.strings_Cut Tryz.amQ s sep m w hs hm
def Tryz.agW:xT:=⟨fun | 145=>113 | 220=>185 | 219=>251 | 217=>295 | 225=>296 | 224=>297 | 267=>298 | 266=>320 | 314=>321 | n=>n,fun | 9=>9 | 4=>4 | 59=>184 | 3=>3 | 5=>5 | 46=>309 | 146=>359 | 51=>358 | n=>n,fun | 1=>4 | n=>n⟩
def Tryz.akP:ybB Tryz.prog Tryz.agW:=by
 repeat' first | kernel_rfl | (intro w;kernel_rfl) | exact fun w h=>Go.Proofs.cell_of_shapedOpen_int (zero:=#[.int .i64 0]) (t:=3) h (of_decide_eq_true (by kernel_rfl)) (by kernel_rfl) rfl (by kernel_rfl) (by kernel_rfl) Tryz.underlying3 | decide | constructor
def Tryz.ahS:xT:=⟨fun | 99=>186 | 206=>252 | n=>n,fun | 9=>9 | 4=>4 | 3=>3 | n=>n,fun | n=>n⟩
def Tryz.apf:ybU Tryz.prog Tryz.ahS:=by
 repeat' first | kernel_rfl | (intro w;kernel_rfl) | decide | constructor
open Go.RowKit Go.Lib in
def Tryz.strings_HasPrefix(s p:ByteArray)(w:yi):
  wg Tryz.prog 186 #[.string s,.string p] w fun e w'=>e=.returned (.bool (Lib.hasPrefix s.data.toList p.data.toList))/\w'=w:=Any.strings_HasPrefix Tryz.apf s p w
def Tryz.ahk:xT:=⟨fun | 101=>187 | 208=>253 | 206=>252 | n=>n,fun | 9=>9 | 4=>4 | 3=>3 | n=>n,fun | n=>n⟩
def Tryz.amR:ybV Tryz.prog Tryz.ahk:=by
 repeat' first | kernel_rfl | (intro w;kernel_rfl) | decide | constructor
open Go.RowKit Go.Lib in
def Tryz.strings_TrimPrefix(s p:ByteArray)(w:yi):
  wg Tryz.prog 187 #[.string s,.string p] w fun e w'=>e=.returned (.string ⟨(Lib.trimPrefix s.data.toList p.data.toList).toArray⟩)/\w'=w:=Any.strings_TrimPrefix Tryz.amR s p w
def Tryz.ahl:xT:=⟨fun | 264=>198 | n=>n,fun | 53=>260 | 46=>309 | n=>n,fun | n=>n⟩
def Tryz.amS:ybW Tryz.prog Tryz.ahl:=by
 repeat' first | kernel_rfl | (intro w;kernel_rfl) | decide | constructor
open Go.RowKit Go.Lib in
def Tryz.bits_Mul64(x y:Nat)(hx:x<18446744073709551616)(hy:y<18446744073709551616)(w:yi):
  wg Tryz.prog 198 #[.int .u64 x,.int .u64 y] w fun e w'=>e=.returned (.tuple #[.int .u64 ((x*y/18446744073709551616:Nat):Int),.int .u64 ((x*y%18446744073709551616:Nat):Int)])/\w'=w:=Any.bits_Mul64 Tryz.amS x y hx hy w
def Tryz.WJ:xT:=⟨fun | 105=>243 | 212=>279 | 99=>186 | 165=>280 | 166=>244 | 170=>281 | 169=>245 | 263=>312 | 264=>198 | 206=>252 | 240=>282 | 241=>313 | 276=>314 | 277=>329 | n=>n,fun | 9=>9 | 3=>3 | 4=>4 | 20=>20 | 0=>0 | 46=>309 | 109=>325 | 5=>5 | 72=>302 | 76=>253 | 51=>358 | 146=>359 | 53=>260 | 148=>261 | 70=>300 | 37=>45 | 75=>252 | 127=>328 | 164=>361 | 80=>231 | n=>n,fun | n=>n⟩
def Tryz.amT:ybX Tryz.prog Tryz.WJ:=by
 repeat' first | kernel_rfl | (intro w;kernel_rfl) | decide | constructor
def Tryz.agB:Builder.Extra Tryz.prog Tryz.WJ:=by
 repeat' first | kernel_rfl | (intro w;kernel_rfl) | decide | constructor
open Go.RowKit Go.Lib in
def Tryz.strings_Repeat(s:ByteArray)(c:Nat)(w:yi)(hc:c<=9223372036854775807)(hlen:s.size*c<=140737488355328):
  wg Tryz.prog 243 #[.string s,.int .i64 c] w fun e w'=>e=.returned (.string ⟨(Lib.repeatL s.data.toList c).toArray⟩)/\Below w.heap.size w w':=Any.strings_Repeat Tryz.amT Tryz.agB s c w hc hlen
def Tryz.agX:xT:=⟨fun | 25=>257 | n=>n,fun | 22=>260 | n=>n,fun | n=>n⟩
def Tryz.akQ:ybC Tryz.prog Tryz.agX:=by
 repeat' first | kernel_rfl | (intro w;kernel_rfl) | decide | constructor
def Tryz.agY:xT:=⟨fun | 26=>259 | n=>n,fun | 22=>260 | n=>n,fun | n=>n⟩
def Tryz.akR:ybD Tryz.prog Tryz.agY:=by
 repeat' first | kernel_rfl | (intro w;kernel_rfl) | decide | constructor
def Tryz.bits_Add64(x y c:Nat)(hc:c<=1)(w:yi):
  (callFunc 257 #[.int .u64 x,.int .u64 y,.int .u64 c]).run Tryz.prog w=
   .ok (.value (.tuple #[.int .u64 (((x+y+c)%18446744073709551616:Nat):Int),.int .u64 (((x+y+c)/18446744073709551616:Nat):Int)])) w:=Any7.bits_Add64 Tryz.akQ x y c hc w
def Tryz.bits_Sub64(x y b:Nat)(hb:b<=1)(w:yi):
  (callFunc 259 #[.int .u64 x,.int .u64 y,.int .u64 b]).run Tryz.prog w=
   .ok (.value (.tuple #[.int .u64 (((x+18446744073709551616-y-b)%18446744073709551616:Nat):Int),.int .u64 ((if x<y+b then 1 else 0:Nat):Int)])) w:=Any7.bits_Sub64 Tryz.akR x y b hb w
open Go.RowKit in
def Tryz.agZ(s HO:ByteArray)(w:yi)(hs:s.size<=9223372036854775807)(As:HO.size<4294967281)(apg:∀(j:Nat) b,HO.data.toList[j]? =some b->b.toNat<128):
  wg Tryz.prog 249 #[.string s,.string HO] w fun e w'=>e=.returned (.string ⟨(Lib.trimS s.data.toList HO.data.toList).toArray⟩)/\Below w.heap.size w w':=
 Any.strings_Trim_laid Tryz.amJ (by kernel_rfl) s HO w hs As apg
def Tryz.s1_3(w:yi)(h:w.ShapedOpen Tryz.prog):∃m,w.cell? ⟨4,0,none⟩=some (.int .i64 m):=Tryz.akP.s1_3 w h
def Tryz.WK:xT:=⟨fun | 166=>244 | 240=>282 | 276=>314 | n=>n,fun | 20=>20 | 37=>45 | 70=>300 | 72=>302 | 75=>252 | 80=>231 | 164=>361 | n=>n,fun | n=>n⟩
def Tryz.amU:ybY Tryz.prog Tryz.WK:=by
 repeat' first | kernel_rfl | (intro w;kernel_rfl) | decide | constructor
def Tryz.agC:Builder.Extra Tryz.prog Tryz.WK:=by
 repeat' first | kernel_rfl | (intro w;kernel_rfl) | decide | constructor
open Go.RowKit in
def Tryz.Builder_WriteString(B b:Nat)(bs:List Value)(s:ByteArray)(w:yi)(h:Lib.IsBuilder 302 5 B b bs w)(hlen:bs.length+s.size<=140737488355328)(UP:B<=w.heap.size):
  wg Tryz.prog 244 #[.pointer (some ⟨b,0,none⟩),.string s] w fun e w'=>e=.returned (.tuple #[.int .i64 s.size,.nilIface])/\(Lib.BuilderAt 302 5 B b (.pointer (some ⟨b,0,none⟩)) (bs++Lib.strCells s) w'/\Below B w w'):=Any.Builder_WriteString Tryz.amU Tryz.agC B b bs s w h hlen UP
end Go.Proofs
