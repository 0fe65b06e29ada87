import Derived.Shelf.Small.Bits
import Derived.Shelf.Small.Wraps
import Derived.Shelf.Strconv.Atoi
import Derived.Shelf.LaysM
import Derived.Shelf.Strconv.Itoa3
import Derived.Shelf.Strings.Cut
import Derived.Shelf.Strings.Prefix
import Derived.Shelf.Bits.Mul64
import Derived.Shelf.Strings.Repeat
import Derived.Shelf.Strings.SlTrimAscii
import Derived.Shelf.Spec.BitsCarry
import Derived.Shelf.Strings.Builder1
import Derived.Test.YtmacbdacedfedaaGreatDoorProg
set_option linter.all false
set_option maxRecDepth 100000
open Go renaming Calls->wB,World->yk
open Go.Proofs.Lays renaming n101->ycq,n103->ycj,n105->ycs,n129->ycl,n134->yci,n145->yco,n160->ych,n166->yct,n169->ycg,n172->yck,n264->ycr,n283->ycm,n285->ycn,n99->ycp
open Go.Proofs.Lays7 renaming n25->ybV,n26->ybW
open Go.Proofs.LaysM renaming n145->ybU,n171->ybT,n284->ybS
open Go.Shelf renaming Ren->wi
namespace Go.Proofs
open Go.Shelf
def Tryz.aaJ:wi:=⟨fun | 169=>244 | n=>n,fun | 70=>295 | 9=>9 | 0=>0 | 72=>297 | 37=>49 | 127=>317 | 3=>3 | 5=>5 | n=>n,fun | n=>n⟩
def Tryz.arA:ycg Tryz.prog Tryz.aaJ:=by
 repeat' first | kernel_rfl | (intro w;kernel_rfl) | decide | constructor
def Tryz.ak9:Builder.Extra Tryz.prog Tryz.aaJ:=by
 repeat' first | kernel_rfl | (intro w;kernel_rfl) | decide | constructor
open Go.RowKit in
def Tryz.Builder_String_any(B b:Nat)(l:List UInt8)(w:yk)(h:Lib.IsBuilder 297 5 B b (Lib.byteCells l) w)(Y3:B<=w.heap.size):
  wB Tryz.prog 244 #[.pointer (some ⟨b,0,none⟩)] w fun e w'=>e=.returned (.string ⟨l.toArray⟩)/\Below B w w':=Any.Builder_String_any Tryz.arA Tryz.ak9 B b l w h Y3
def Tryz.alO:wi:=⟨fun | 160=>249 | 232=>282 | 231=>281 | 227=>283 | 234=>285 | 233=>284 | 236=>287 | 235=>286 | 228=>309 | 271=>312 | 151=>311 | 197=>310 | 120=>325 | 152=>324 | 260=>323 | 137=>330 | 119=>331 | 224=>290 | 225=>289 | 217=>288 | 266=>313 | n=>n,fun | 9=>9 | 4=>4 | 3=>3 | 5=>5 | 117=>326 | 116=>325 | 0=>0 | 124=>329 | 21=>21 | 105=>353 | 46=>304 | 119=>374 | 139=>377 | 138=>376 | n=>n,fun | 3=>10 | 4=>11 | n=>n⟩
def Tryz.arB:ych Tryz.prog Tryz.alO:=by
 repeat' first | kernel_rfl | (intro w;kernel_rfl) | decide | constructor
def Tryz.alP:wi:=⟨fun | 134=>266 | 129=>258 | n=>n,fun | 53=>279 | 3=>3 | 4=>4 | 46=>304 | 5=>5 | 9=>9 | n=>n,fun | n=>n⟩
def Tryz.arC:yci Tryz.prog Tryz.alP:=by
 repeat' first | kernel_rfl | (intro w;kernel_rfl) | decide | constructor
def Tryz.bits_LeadingZeros64(x:Int)(w:yk)(h0:0<=x)(h1:x<=18446744073709551615):
  wB Tryz.prog 266 #[.int .u64 x] w fun e w'=>e=.returned (.int .i64 (64-(Lib.bitLen x.toNat:Int)))/\w'=w:=Any.bits_LeadingZeros64 Tryz.arC x w h0 h1
def Tryz.alQ:wi:=⟨fun | 103=>190 | 210=>248 | 206=>252 | n=>n,fun | 9=>9 | 4=>4 | 24=>249 | 3=>3 | n=>n,fun | n=>n⟩
def Tryz.arD:ycj Tryz.prog Tryz.alQ:=by
 repeat' first | kernel_rfl | (intro w;kernel_rfl) | decide | constructor
open Go.RowKit in
def Tryz.strings_CutPrefix(s p:ByteArray)(w:yk):
  wB Tryz.prog 190 #[.string s,.string p] w fun e w'=>e=.returned (.tuple #[.string ⟨(Lib.trimPrefix s.data.toList p.data.toList).toArray⟩,.bool (Lib.hasPrefix s.data.toList p.data.toList)])/\w'=w:=Any.strings_CutPrefix Tryz.arD s p w
def Tryz.alR:wi:=⟨fun | 172=>198 | 244=>254 | 245=>255 | 247=>292 | 279=>293 | 280=>294 | 281=>295 | 282=>296 | 287=>315 | 316=>316 | 171=>239 | 205=>317 | 321=>326 | 322=>327 | 243=>267 | 246=>300 | 283=>301 | 284=>302 | 285=>303 | 286=>304 | 129=>258 | 317=>318 | 318=>319 | 319=>320 | 320=>321 | 337=>328 | 338=>329 | n=>n,fun | 9=>9 | 3=>3 | 75=>255 | 76=>256 | 4=>4 | 5=>5 | 167=>332 | 37=>49 | 0=>0 | 85=>333 | 2=>2 | 168=>335 | 53=>279 | 175=>357 | 46=>304 | 210=>361 | 127=>317 | 145=>372 | 143=>370 | 21=>21 | 171=>343 | 173=>345 | 212=>311 | 51=>347 | 20=>20 | 213=>364 | 232=>379 | 233=>380 | 80=>232 | n=>n,fun | 15=>7 | 16=>8 | 17=>9 | 18=>12 | 19=>13 | n=>n⟩
def Tryz.arE:yck Tryz.prog Tryz.alR:=by
 repeat' first | kernel_rfl | (intro w;kernel_rfl) | decide | constructor
open Go.RowKit in
def Tryz.strconv_Atoi(s:ByteArray)(n:Int)(hl:s.size<=18)(h:Lib.atoi s.data.toList=some n)(w:yk):
  wB Tryz.prog 198 #[.string s] w fun e w'=>e=.returned (.tuple #[.int .i64 n,.nilIface])/\∃t,w'=Lib.bytesWorld w 5 t:=Any.strconv_Atoi Tryz.arE s n hl h w
def Tryz.alS:wi:=⟨fun | 129=>258 | n=>n,fun | 53=>279 | 3=>3 | 4=>4 | 46=>304 | 5=>5 | 9=>9 | n=>n,fun | n=>n⟩
def Tryz.arG:ycl Tryz.prog Tryz.alS:=by
 repeat' first | kernel_rfl | (intro w;kernel_rfl) | decide | constructor
def Tryz.bits_Len64(x:Int)(w:yk)(h0:0<=x)(h1:x<=18446744073709551615):
  wB Tryz.prog 258 #[.int .u64 x] w fun e w'=>e=.returned (.int .i64 (Lib.bitLen x.toNat))/\w'=w:=Any.bits_Len64 Tryz.arG x w h0 h1
def Tryz.alT:wi:=⟨fun | 283=>301 | n=>n,fun | 3=>3 | 9=>9 | 4=>4 | n=>n,fun | n=>n⟩
def Tryz.arH:ycm Tryz.prog Tryz.alT:=by
 repeat' first | kernel_rfl | (intro w;kernel_rfl) | decide | constructor
open Go.Lib in
def Tryz.internal_strconv_small(i:Nat)(h:i<100)(w:yk):
  wB Tryz.prog 301 #[.int .i64 i] w fun e w'=>e=.returned (.string ⟨(Lib.decDigits i).toArray⟩)/\w'=w:=Any.internal_strconv_small Tryz.arH i h w
def Tryz.alw:wi:=⟨fun | 284=>302 | 129=>258 | 317=>318 | 318=>319 | n=>n,fun | 53=>279 | 3=>3 | 212=>311 | 0=>0 | 4=>4 | 46=>304 | 5=>5 | 9=>9 | n=>n,fun | 17=>9 | n=>n⟩
def Tryz.apB:ybS Tryz.prog Tryz.alw:=by
 repeat' first | kernel_rfl | (intro w;kernel_rfl) | decide | constructor
open Go.Lib in
def Tryz.internal_strconv_numDigits(u:Nat)(h1:1<=u)(h2:u<18446744073709551616)(w:yk)(Ff:Lib.TabIs Tryz.prog w "internal/strconv.uint64pow10" .u64 Lib.pow10Tab):
  wB Tryz.prog 302 #[.int .u64 u] w fun e w'=>e=.returned (.int .i64 (Lib.nDigits u))/\w'=w:=Any.internal_strconv_numDigits Tryz.apB u h1 h2 w Ff
def Tryz.alU:wi:=⟨fun | 285=>303 | n=>n,fun | 37=>49 | 53=>279 | 3=>3 | 4=>4 | 51=>347 | 9=>9 | 5=>5 | 0=>0 | n=>n,fun | n=>n⟩
def Tryz.arI:ycn Tryz.prog Tryz.alU:=by
 repeat' first | kernel_rfl | (intro w;kernel_rfl) | decide | constructor
open Go.RowKit Go.Sort Go.Lib in
def Tryz.internal_strconv_formatBase10(eb off cap:Nat)(u:Nat)(d:Array UInt8)(w:yk)(hH:Holds (fun (b:UInt8)=>Value.int .u8 (b.toNat:Int)) w eb off d)(hu:u<10^d.size)(Fg:u<18446744073709551616)(eO:d.size<4611686018427387904):
  wB Tryz.prog 303 #[.slice (some ⟨eb,off,none⟩) d.size cap,.int .u64 u] w fun e w'=>
   e=.returned (.tuple #[])/\∃(n v':Nat) (dk:Array UInt8),w'=(putRow (fun (b:UInt8)=>Value.int .u8 (b.toNat:Int)) w eb off dk).drewN n/\FmtInv d.size u 0 v' dk:=Any.internal_strconv_formatBase10 Tryz.arI eb off cap u d w hH hu Fg eO
def Tryz.alx:wi:=⟨fun | 171=>239 | 243=>267 | 246=>300 | 283=>301 | 284=>302 | 285=>303 | 286=>304 | 129=>258 | 317=>318 | 318=>319 | 319=>320 | 320=>321 | 337=>328 | 338=>329 | n=>n,fun | 3=>3 | 9=>9 | 2=>2 | 4=>4 | 171=>343 | 0=>0 | 53=>279 | 37=>49 | 5=>5 | 173=>345 | 212=>311 | 51=>347 | 20=>20 | 213=>364 | 46=>304 | 232=>379 | 233=>380 | n=>n,fun | 17=>9 | 18=>12 | 19=>13 | n=>n⟩
def Tryz.apC:ybT Tryz.prog Tryz.alx:=by
 repeat' first | kernel_rfl | (intro w;kernel_rfl) | decide | constructor
open Go.RowKit Go.Sort Go.Lib in
def Tryz.strconv_Itoa(n:Int)(h0: -9223372036854775808<=n)(h1:n<=9223372036854775807)(w:yk)(Ff:Lib.TabIs Tryz.prog w "internal/strconv.uint64pow10" .u64 Lib.pow10Tab):
  wB Tryz.prog 239 #[.int .i64 n] w fun e w'=>e=.returned (.string ⟨(Lib.itoa n).toArray⟩)/\∃k os,w'=grow (w.drewN k) os:=Any.strconv_Itoa Tryz.apC n h0 h1 w Ff
def Tryz.alV:wi:=⟨fun | 145=>120 | 220=>195 | 219=>251 | 217=>288 | 225=>289 | 224=>290 | 267=>291 | 266=>313 | 314=>314 | n=>n,fun | 9=>9 | 4=>4 | 59=>195 | 3=>3 | 5=>5 | 46=>304 | 146=>348 | 51=>347 | n=>n,fun | 1=>4 | n=>n⟩
def Tryz.arJ:yco Tryz.prog Tryz.alV:=by
 repeat' first | kernel_rfl | (intro w;kernel_rfl) | decide | constructor
open Go.RowKit Go.Lib in
def Tryz.strings_Cut(s sep:ByteArray)(m:Int)(w:yk)(hs:s.size<4294967281)(hm:w.cell? ⟨4,0,none⟩=some (.int .i64 m)):
  wB Tryz.prog 120 #[.string s,.string sep] w fun e w'=>e=.returned (.tuple #[.string ⟨(Lib.cut s.data.toList sep.data.toList).1.toArray⟩,.string ⟨(Lib.cut s.data.toList sep.data.toList).2.1.toArray⟩,.bool (Lib.cut s.data.toList sep.data.toList).2.2])/\∃n,w'=w.drewN n:=Any.strings_Cut Tryz.arJ s sep m w hs hm
def Tryz.aly:wi:=⟨fun | 145=>120 | 220=>195 | 219=>251 | 217=>288 | 225=>289 | 224=>290 | 267=>291 | 266=>313 | 314=>314 | n=>n,fun | 9=>9 | 4=>4 | 59=>195 | 3=>3 | 5=>5 | 46=>304 | 146=>348 | 51=>347 | n=>n,fun | 1=>4 | n=>n⟩
def Tryz.apD:ybU Tryz.prog Tryz.aly:=by
 repeat' first | kernel_rfl | (intro w;kernel_rfl) | exact fun w h=>Go.Proofs.cell_of_shapedOpen_int (zero:=#[.int .i64 0]) (t:=3) h (of_decide_eq_true (by kernel_rfl)) (by kernel_rfl) rfl (by kernel_rfl) (by kernel_rfl) Tryz.underlying3 | decide | constructor
def Tryz.amt:wi:=⟨fun | 99=>196 | 206=>252 | n=>n,fun | 9=>9 | 4=>4 | 3=>3 | n=>n,fun | n=>n⟩
def Tryz.aun:ycp Tryz.prog Tryz.amt:=by
 repeat' first | kernel_rfl | (intro w;kernel_rfl) | decide | constructor
open Go.RowKit Go.Lib in
def Tryz.strings_HasPrefix(s p:ByteArray)(w:yk):
  wB Tryz.prog 196 #[.string s,.string p] w fun e w'=>e=.returned (.bool (Lib.hasPrefix s.data.toList p.data.toList))/\w'=w:=Any.strings_HasPrefix Tryz.aun s p w
def Tryz.alW:wi:=⟨fun | 101=>197 | 208=>253 | 206=>252 | n=>n,fun | 9=>9 | 4=>4 | 3=>3 | n=>n,fun | n=>n⟩
def Tryz.arK:ycq Tryz.prog Tryz.alW:=by
 repeat' first | kernel_rfl | (intro w;kernel_rfl) | decide | constructor
open Go.RowKit Go.Lib in
def Tryz.strings_TrimPrefix(s p:ByteArray)(w:yk):
  wB Tryz.prog 197 #[.string s,.string p] w fun e w'=>e=.returned (.string ⟨(Lib.trimPrefix s.data.toList p.data.toList).toArray⟩)/\w'=w:=Any.strings_TrimPrefix Tryz.arK s p w
def Tryz.alX:wi:=⟨fun | 264=>230 | n=>n,fun | 53=>279 | 46=>304 | n=>n,fun | n=>n⟩
def Tryz.arL:ycr Tryz.prog Tryz.alX:=by
 repeat' first | kernel_rfl | (intro w;kernel_rfl) | decide | constructor
open Go.RowKit Go.Lib in
def Tryz.bits_Mul64(x y:Nat)(hx:x<18446744073709551616)(hy:y<18446744073709551616)(w:yk):
  wB Tryz.prog 230 #[.int .u64 x,.int .u64 y] w fun e w'=>e=.returned (.tuple #[.int .u64 ((x*y/18446744073709551616:Nat):Int),.int .u64 ((x*y%18446744073709551616:Nat):Int)])/\w'=w:=Any.bits_Mul64 Tryz.arL x y hx hy w
def Tryz.aaK:wi:=⟨fun | 105=>242 | 212=>272 | 99=>196 | 165=>273 | 166=>243 | 170=>274 | 169=>244 | 263=>305 | 264=>230 | 206=>252 | 240=>275 | 241=>306 | 276=>307 | 277=>322 | n=>n,fun | 9=>9 | 3=>3 | 4=>4 | 20=>20 | 0=>0 | 46=>304 | 109=>314 | 5=>5 | 72=>297 | 76=>256 | 51=>347 | 146=>348 | 53=>279 | 148=>280 | 70=>295 | 37=>49 | 75=>255 | 127=>317 | 164=>350 | 80=>232 | n=>n,fun | n=>n⟩
def Tryz.arM:ycs Tryz.prog Tryz.aaK:=by
 repeat' first | kernel_rfl | (intro w;kernel_rfl) | decide | constructor
def Tryz.ala:Builder.Extra Tryz.prog Tryz.aaK:=by
 repeat' first | kernel_rfl | (intro w;kernel_rfl) | decide | constructor
open Go.RowKit Go.Lib in
def Tryz.strings_Repeat(s:ByteArray)(c:Nat)(w:yk)(hc:c<=9223372036854775807)(hlen:s.size*c<=140737488355328):
  wB Tryz.prog 242 #[.string s,.int .i64 c] w fun e w'=>e=.returned (.string ⟨(Lib.repeatL s.data.toList c).toArray⟩)/\Below w.heap.size w w':=Any.strings_Repeat Tryz.arM Tryz.ala s c w hc hlen
def Tryz.alz:wi:=⟨fun | 25=>261 | n=>n,fun | 22=>279 | n=>n,fun | n=>n⟩
def Tryz.apE:ybV Tryz.prog Tryz.alz:=by
 repeat' first | kernel_rfl | (intro w;kernel_rfl) | decide | constructor
def Tryz.alA:wi:=⟨fun | 26=>263 | n=>n,fun | 22=>279 | n=>n,fun | n=>n⟩
def Tryz.apF:ybW Tryz.prog Tryz.alA:=by
 repeat' first | kernel_rfl | (intro w;kernel_rfl) | decide | constructor
def Tryz.bits_Add64(x y c:Nat)(hc:c<=1)(w:yk):
  (callFunc 261 #[.int .u64 x,.int .u64 y,.int .u64 c]).run Tryz.prog w=
   .ok (.value (.tuple #[.int .u64 (((x+y+c)%18446744073709551616:Nat):Int),.int .u64 (((x+y+c)/18446744073709551616:Nat):Int)])) w:=Any7.bits_Add64 Tryz.apE x y c hc w
def Tryz.bits_Sub64(x y b:Nat)(hb:b<=1)(w:yk):
  (callFunc 263 #[.int .u64 x,.int .u64 y,.int .u64 b]).run Tryz.prog w=
   .ok (.value (.tuple #[.int .u64 (((x+18446744073709551616-y-b)%18446744073709551616:Nat):Int),.int .u64 ((if x<y+b then 1 else 0:Nat):Int)])) w:=Any7.bits_Sub64 Tryz.apF x y b hb w
open Go.RowKit in
def Tryz.alB(s KF:ByteArray)(w:yk)(hs:s.size<=9223372036854775807)(B2:KF.size<4294967281)(auo:∀(j:Nat) b,KF.data.toList[j]? =some b->b.toNat<128):
  wB Tryz.prog 249 #[.string s,.string KF] w fun e w'=>e=.returned (.string ⟨(Lib.trimS s.data.toList KF.data.toList).toArray⟩)/\Below w.heap.size w w':=
 Any.strings_Trim_laid Tryz.arB (by kernel_rfl) s KF w hs B2 auo
def Tryz.s1_3(w:yk)(h:w.ShapedOpen Tryz.prog):∃m,w.cell? ⟨4,0,none⟩=some (.int .i64 m):=Tryz.apD.s1_3 w h
def Tryz.aaL:wi:=⟨fun | 166=>243 | 240=>275 | 276=>307 | n=>n,fun | 20=>20 | 37=>49 | 70=>295 | 72=>297 | 75=>255 | 80=>232 | 164=>350 | n=>n,fun | n=>n⟩
def Tryz.arN:yct Tryz.prog Tryz.aaL:=by
 repeat' first | kernel_rfl | (intro w;kernel_rfl) | decide | constructor
def Tryz.alb:Builder.Extra Tryz.prog Tryz.aaL:=by
 repeat' first | kernel_rfl | (intro w;kernel_rfl) | decide | constructor
open Go.RowKit in
def Tryz.Builder_WriteString(B b:Nat)(bs:List Value)(s:ByteArray)(w:yk)(h:Lib.IsBuilder 297 5 B b bs w)(hlen:bs.length+s.size<=140737488355328)(Y3:B<=w.heap.size):
  wB Tryz.prog 243 #[.pointer (some ⟨b,0,none⟩),.string s] w fun e w'=>e=.returned (.tuple #[.int .i64 s.size,.nilIface])/\(Lib.BuilderAt 297 5 B b (.pointer (some ⟨b,0,none⟩)) (bs++Lib.strCells s) w'/\Below B w w'):=Any.Builder_WriteString Tryz.arN Tryz.alb B b bs s w h hlen Y3
end Go.Proofs
