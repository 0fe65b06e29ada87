import Derived.Shelf.Small.Bits
import Derived.Shelf.Small.Wraps
import Derived.Shelf.Strconv.Atoi
import Derived.Shelf.LaysM
import Derived.Shelf.Strconv.Itoa3
import Derived.Shelf.Strings.Cut
import Derived.Shelf.Strings.Prefix
import Derived.Shelf.Bits.Mul64
import Derived.Shelf.Strings.Repeat
import Derived.Shelf.Strings.SlTrimAscii
import Derived.Shelf.Spec.BitsCarry
import Derived.Shelf.Strings.Builder1
import Derived.Test.YtfdcefmdjiokdaaGreatDoorProg
set_option linter.all false
set_option maxRecDepth 100000
open Go renaming Calls->wH,World->yt
open Go.Proofs.Lays renaming n101->yck,n103->ycd,n105->ycm,n129->ycf,n134->ycc,n145->yci,n160->ycb,n166->ycn,n169->yca,n172->yce,n264->ycl,n283->ycg,n285->ych,n99->ycj
open Go.Proofs.Lays7 renaming n25->ybR,n26->ybS
open Go.Proofs.LaysM renaming n145->ybQ,n171->ybP,n284->ybO
open Go.Shelf renaming Ren->wo
namespace Go.Proofs
open Go.Shelf
def Tryz.aeN:wo:=⟨fun | 169=>252 | n=>n,fun | 70=>282 | 9=>9 | 0=>0 | 72=>285 | 37=>283 | 127=>312 | 3=>3 | 5=>5 | n=>n,fun | n=>n⟩
def Tryz.avZ:yca Tryz.prog Tryz.aeN:=by
 repeat' first | kernel_rfl | (intro w;kernel_rfl) | decide | constructor
def Tryz.apC:Builder.Extra Tryz.prog Tryz.aeN:=by
 repeat' first | kernel_rfl | (intro w;kernel_rfl) | decide | constructor
open Go.RowKit in
def Tryz.Builder_String_any(B b:Nat)(l:List UInt8)(w:yt)(h:Lib.IsBuilder 285 5 B b (Lib.byteCells l) w)(hBw:B<=w.heap.size):
  wH Tryz.prog 252 #[.pointer (some ⟨b,0,none⟩)] w fun e w'=>e=.returned (.string ⟨l.toArray⟩)/\Below B w w':=Any.Builder_String_any Tryz.avZ Tryz.apC B b l w h hBw
def Tryz.ap8:wo:=⟨fun | 160=>220 | 232=>259 | 231=>258 | 227=>260 | 234=>262 | 233=>261 | 236=>264 | 235=>263 | 228=>292 | 271=>295 | 151=>294 | 197=>293 | 120=>314 | 152=>313 | 260=>312 | 137=>323 | 119=>324 | 224=>290 | 225=>289 | 217=>288 | 266=>310 | n=>n,fun | 9=>9 | 4=>4 | 3=>3 | 5=>5 | 117=>291 | 116=>290 | 0=>0 | 124=>294 | 21=>21 | 105=>315 | 46=>296 | 119=>348 | 139=>351 | 138=>350 | n=>n,fun | 3=>7 | 4=>8 | n=>n⟩
def Tryz.av0:ycb Tryz.prog Tryz.ap8:=by
 repeat' first | kernel_rfl | (intro w;kernel_rfl) | decide | constructor
def Tryz.ap9:wo:=⟨fun | 134=>280 | 129=>243 | n=>n,fun | 53=>266 | 3=>3 | 4=>4 | 46=>296 | 5=>5 | 9=>9 | n=>n,fun | n=>n⟩
def Tryz.av1:ycc Tryz.prog Tryz.ap9:=by
 repeat' first | kernel_rfl | (intro w;kernel_rfl) | decide | constructor
def Tryz.bits_LeadingZeros64(x:Int)(w:yt)(h0:0<=x)(h1:x<=18446744073709551615):
  wH Tryz.prog 280 #[.int .u64 x] w fun e w'=>e=.returned (.int .i64 (64-(Lib.bitLen x.toNat:Int)))/\w'=w:=Any.bits_LeadingZeros64 Tryz.av1 x w h0 h1
def Tryz.aqa:wo:=⟨fun | 103=>173 | 210=>218 | 206=>256 | n=>n,fun | 9=>9 | 4=>4 | 24=>218 | 3=>3 | n=>n,fun | n=>n⟩
def Tryz.av2:ycd Tryz.prog Tryz.aqa:=by
 repeat' first | kernel_rfl | (intro w;kernel_rfl) | decide | constructor
open Go.RowKit in
def Tryz.strings_CutPrefix(s p:ByteArray)(w:yt):
  wH Tryz.prog 173 #[.string s,.string p] w fun e w'=>e=.returned (.tuple #[.string ⟨(Lib.trimPrefix s.data.toList p.data.toList).toArray⟩,.bool (Lib.hasPrefix s.data.toList p.data.toList)])/\w'=w:=Any.strings_CutPrefix Tryz.av2 s p w
def Tryz.aqb:wo:=⟨fun | 172=>225 | 244=>266 | 245=>267 | 247=>296 | 279=>297 | 280=>298 | 281=>299 | 282=>300 | 287=>315 | 316=>316 | 171=>247 | 205=>317 | 321=>325 | 322=>326 | 243=>278 | 246=>302 | 283=>303 | 284=>304 | 285=>305 | 286=>306 | 129=>243 | 317=>318 | 318=>319 | 319=>320 | 320=>321 | 337=>327 | 338=>328 | n=>n,fun | 9=>9 | 3=>3 | 75=>258 | 76=>259 | 4=>4 | 5=>5 | 167=>318 | 37=>283 | 0=>0 | 85=>319 | 2=>2 | 168=>321 | 53=>266 | 175=>337 | 46=>296 | 210=>341 | 127=>312 | 145=>356 | 143=>354 | 21=>21 | 171=>326 | 173=>328 | 212=>344 | 51=>330 | 20=>20 | 213=>345 | 232=>358 | 233=>359 | 80=>242 | n=>n,fun | 15=>4 | 16=>5 | 17=>6 | 18=>9 | 19=>10 | n=>n⟩
def Tryz.av3:yce Tryz.prog Tryz.aqb:=by
 repeat' first | kernel_rfl | (intro w;kernel_rfl) | decide | constructor
open Go.RowKit in
def Tryz.strconv_Atoi(s:ByteArray)(n:Int)(hl:s.size<=18)(h:Lib.atoi s.data.toList=some n)(w:yt):
  wH Tryz.prog 225 #[.string s] w fun e w'=>e=.returned (.tuple #[.int .i64 n,.nilIface])/\∃t,w'=Lib.bytesWorld w 5 t:=Any.strconv_Atoi Tryz.av3 s n hl h w
def Tryz.aqc:wo:=⟨fun | 129=>243 | n=>n,fun | 53=>266 | 3=>3 | 4=>4 | 46=>296 | 5=>5 | 9=>9 | n=>n,fun | n=>n⟩
def Tryz.av4:ycf Tryz.prog Tryz.aqc:=by
 repeat' first | kernel_rfl | (intro w;kernel_rfl) | decide | constructor
def Tryz.bits_Len64(x:Int)(w:yt)(h0:0<=x)(h1:x<=18446744073709551615):
  wH Tryz.prog 243 #[.int .u64 x] w fun e w'=>e=.returned (.int .i64 (Lib.bitLen x.toNat))/\w'=w:=Any.bits_Len64 Tryz.av4 x w h0 h1
def Tryz.aqd:wo:=⟨fun | 283=>303 | n=>n,fun | 3=>3 | 9=>9 | 4=>4 | n=>n,fun | n=>n⟩
def Tryz.av5:ycg Tryz.prog Tryz.aqd:=by
 repeat' first | kernel_rfl | (intro w;kernel_rfl) | decide | constructor
open Go.Lib in
def Tryz.internal_strconv_small(i:Nat)(h:i<100)(w:yt):
  wH Tryz.prog 303 #[.int .i64 i] w fun e w'=>e=.returned (.string ⟨(Lib.decDigits i).toArray⟩)/\w'=w:=Any.internal_strconv_small Tryz.av5 i h w
def Tryz.apT:wo:=⟨fun | 284=>304 | 129=>243 | 317=>318 | 318=>319 | n=>n,fun | 53=>266 | 3=>3 | 212=>344 | 0=>0 | 4=>4 | 46=>296 | 5=>5 | 9=>9 | n=>n,fun | 17=>6 | n=>n⟩
def Tryz.atN:ybO Tryz.prog Tryz.apT:=by
 repeat' first | kernel_rfl | (intro w;kernel_rfl) | decide | constructor
open Go.Lib in
def Tryz.internal_strconv_numDigits(u:Nat)(h1:1<=u)(h2:u<18446744073709551616)(w:yt)(Hg:Lib.TabIs Tryz.prog w "internal/strconv.uint64pow10" .u64 Lib.pow10Tab):
  wH Tryz.prog 304 #[.int .u64 u] w fun e w'=>e=.returned (.int .i64 (Lib.nDigits u))/\w'=w:=Any.internal_strconv_numDigits Tryz.atN u h1 h2 w Hg
def Tryz.aqe:wo:=⟨fun | 285=>305 | n=>n,fun | 37=>283 | 53=>266 | 3=>3 | 4=>4 | 51=>330 | 9=>9 | 5=>5 | 0=>0 | n=>n,fun | n=>n⟩
def Tryz.av6:ych Tryz.prog Tryz.aqe:=by
 repeat' first | kernel_rfl | (intro w;kernel_rfl) | decide | constructor
open Go.RowKit Go.Sort Go.Lib in
def Tryz.internal_strconv_formatBase10(jj off cap:Nat)(u:Nat)(d:Array UInt8)(w:yt)(hH:Holds (fun (b:UInt8)=>Value.int .u8 (b.toNat:Int)) w jj off d)(hu:u<10^d.size)(Hh:u<18446744073709551616)(fL:d.size<4611686018427387904):
  wH Tryz.prog 305 #[.slice (some ⟨jj,off,none⟩) d.size cap,.int .u64 u] w fun e w'=>
   e=.returned (.tuple #[])/\∃(n v':Nat) (dk:Array UInt8),w'=(putRow (fun (b:UInt8)=>Value.int .u8 (b.toNat:Int)) w jj off dk).drewN n/\FmtInv d.size u 0 v' dk:=Any.internal_strconv_formatBase10 Tryz.av6 jj off cap u d w hH hu Hh fL
def Tryz.apU:wo:=⟨fun | 171=>247 | 243=>278 | 246=>302 | 283=>303 | 284=>304 | 285=>305 | 286=>306 | 129=>243 | 317=>318 | 318=>319 | 319=>320 | 320=>321 | 337=>327 | 338=>328 | n=>n,fun | 3=>3 | 9=>9 | 2=>2 | 4=>4 | 171=>326 | 0=>0 | 53=>266 | 37=>283 | 5=>5 | 173=>328 | 212=>344 | 51=>330 | 20=>20 | 213=>345 | 46=>296 | 232=>358 | 233=>359 | n=>n,fun | 17=>6 | 18=>9 | 19=>10 | n=>n⟩
def Tryz.atO:ybP Tryz.prog Tryz.apU:=by
 repeat' first | kernel_rfl | (intro w;kernel_rfl) | decide | constructor
open Go.RowKit Go.Sort Go.Lib in
def Tryz.strconv_Itoa(n:Int)(h0: -9223372036854775808<=n)(h1:n<=9223372036854775807)(w:yt)(Hg:Lib.TabIs Tryz.prog w "internal/strconv.uint64pow10" .u64 Lib.pow10Tab):
  wH Tryz.prog 247 #[.int .i64 n] w fun e w'=>e=.returned (.string ⟨(Lib.itoa n).toArray⟩)/\∃k os,w'=grow (w.drewN k) os:=Any.strconv_Itoa Tryz.atO n h0 h1 w Hg
def Tryz.aqf:wo:=⟨fun | 145=>174 | 220=>219 | 219=>257 | 217=>288 | 225=>289 | 224=>290 | 267=>291 | 266=>310 | 314=>311 | n=>n,fun | 9=>9 | 4=>4 | 59=>220 | 3=>3 | 5=>5 | 46=>296 | 146=>331 | 51=>330 | n=>n,fun | 1=>1 | n=>n⟩
def Tryz.av7:yci Tryz.prog Tryz.aqf:=by
 repeat' first | kernel_rfl | (intro w;kernel_rfl) | decide | constructor
open Go.RowKit Go.Lib in
def Tryz.strings_Cut(s sep:ByteArray)(m:Int)(w:yt)(hs:s.size<4294967281)(hm:w.cell? ⟨1,0,none⟩=some (.int .i64 m)):
  wH Tryz.prog 174 #[.string s,.string sep] w fun e w'=>e=.returned (.tuple #[.string ⟨(Lib.cut s.data.toList sep.data.toList).1.toArray⟩,.string ⟨(Lib.cut s.data.toList sep.data.toList).2.1.toArray⟩,.bool (Lib.cut s.data.toList sep.data.toList).2.2])/\∃n,w'=w.drewN n:=Any.strings_Cut Tryz.av7 s sep m w hs hm
def Tryz.apV:wo:=⟨fun | 145=>174 | 220=>219 | 219=>257 | 217=>288 | 225=>289 | 224=>290 | 267=>291 | 266=>310 | 314=>311 | n=>n,fun | 9=>9 | 4=>4 | 59=>220 | 3=>3 | 5=>5 | 46=>296 | 146=>331 | 51=>330 | n=>n,fun | 1=>1 | n=>n⟩
def Tryz.atP:ybQ Tryz.prog Tryz.apV:=by
 repeat' first | kernel_rfl | (intro w;kernel_rfl) | exact fun w h=>Go.Proofs.cell_of_shapedOpen_int (zero:=#[.int .i64 0]) (t:=3) h (of_decide_eq_true (by kernel_rfl)) (by kernel_rfl) rfl (by kernel_rfl) (by kernel_rfl) Tryz.underlying3 | decide | constructor
def Tryz.aqI:wo:=⟨fun | 99=>223 | 206=>256 | n=>n,fun | 9=>9 | 4=>4 | 3=>3 | n=>n,fun | n=>n⟩
def Tryz.ayC:ycj Tryz.prog Tryz.aqI:=by
 repeat' first | kernel_rfl | (intro w;kernel_rfl) | decide | constructor
open Go.RowKit Go.Lib in
def Tryz.strings_HasPrefix(s p:ByteArray)(w:yt):
  wH Tryz.prog 223 #[.string s,.string p] w fun e w'=>e=.returned (.bool (Lib.hasPrefix s.data.toList p.data.toList))/\w'=w:=Any.strings_HasPrefix Tryz.ayC s p w
def Tryz.aqg:wo:=⟨fun | 101=>224 | 208=>265 | 206=>256 | n=>n,fun | 9=>9 | 4=>4 | 3=>3 | n=>n,fun | n=>n⟩
def Tryz.av8:yck Tryz.prog Tryz.aqg:=by
 repeat' first | kernel_rfl | (intro w;kernel_rfl) | decide | constructor
open Go.RowKit Go.Lib in
def Tryz.strings_TrimPrefix(s p:ByteArray)(w:yt):
  wH Tryz.prog 224 #[.string s,.string p] w fun e w'=>e=.returned (.string ⟨(Lib.trimPrefix s.data.toList p.data.toList).toArray⟩)/\w'=w:=Any.strings_TrimPrefix Tryz.av8 s p w
def Tryz.aqh:wo:=⟨fun | 264=>235 | n=>n,fun | 53=>266 | 46=>296 | n=>n,fun | n=>n⟩
def Tryz.av9:ycl Tryz.prog Tryz.aqh:=by
 repeat' first | kernel_rfl | (intro w;kernel_rfl) | decide | constructor
open Go.RowKit Go.Lib in
def Tryz.bits_Mul64(x y:Nat)(hx:x<18446744073709551616)(hy:y<18446744073709551616)(w:yt):
  wH Tryz.prog 235 #[.int .u64 x,.int .u64 y] w fun e w'=>e=.returned (.tuple #[.int .u64 ((x*y/18446744073709551616:Nat):Int),.int .u64 ((x*y%18446744073709551616:Nat):Int)])/\w'=w:=Any.bits_Mul64 Tryz.av9 x y hx hy w
def Tryz.aeO:wo:=⟨fun | 105=>250 | 212=>284 | 99=>223 | 165=>285 | 166=>251 | 170=>286 | 169=>252 | 263=>307 | 264=>235 | 206=>256 | 240=>287 | 241=>308 | 276=>309 | 277=>322 | n=>n,fun | 9=>9 | 3=>3 | 4=>4 | 20=>20 | 0=>0 | 46=>296 | 109=>309 | 5=>5 | 72=>285 | 76=>259 | 51=>330 | 146=>331 | 53=>266 | 148=>267 | 70=>282 | 37=>283 | 75=>258 | 127=>312 | 164=>333 | 80=>242 | n=>n,fun | n=>n⟩
def Tryz.awa:ycm Tryz.prog Tryz.aeO:=by
 repeat' first | kernel_rfl | (intro w;kernel_rfl) | decide | constructor
def Tryz.apD:Builder.Extra Tryz.prog Tryz.aeO:=by
 repeat' first | kernel_rfl | (intro w;kernel_rfl) | decide | constructor
open Go.RowKit Go.Lib in
def Tryz.strings_Repeat(s:ByteArray)(c:Nat)(w:yt)(hc:c<=9223372036854775807)(hlen:s.size*c<=140737488355328):
  wH Tryz.prog 250 #[.string s,.int .i64 c] w fun e w'=>e=.returned (.string ⟨(Lib.repeatL s.data.toList c).toArray⟩)/\Below w.heap.size w w':=Any.strings_Repeat Tryz.awa Tryz.apD s c w hc hlen
def Tryz.apW:wo:=⟨fun | 25=>268 | n=>n,fun | 22=>266 | n=>n,fun | n=>n⟩
def Tryz.atQ:ybR Tryz.prog Tryz.apW:=by
 repeat' first | kernel_rfl | (intro w;kernel_rfl) | decide | constructor
def Tryz.apX:wo:=⟨fun | 26=>270 | n=>n,fun | 22=>266 | n=>n,fun | n=>n⟩
def Tryz.atS:ybS Tryz.prog Tryz.apX:=by
 repeat' first | kernel_rfl | (intro w;kernel_rfl) | decide | constructor
def Tryz.bits_Add64(x y c:Nat)(hc:c<=1)(w:yt):
  (callFunc 268 #[.int .u64 x,.int .u64 y,.int .u64 c]).run Tryz.prog w=
   .ok (.value (.tuple #[.int .u64 (((x+y+c)%18446744073709551616:Nat):Int),.int .u64 (((x+y+c)/18446744073709551616:Nat):Int)])) w:=Any7.bits_Add64 Tryz.atQ x y c hc w
def Tryz.bits_Sub64(x y b:Nat)(hb:b<=1)(w:yt):
  (callFunc 270 #[.int .u64 x,.int .u64 y,.int .u64 b]).run Tryz.prog w=
   .ok (.value (.tuple #[.int .u64 (((x+18446744073709551616-y-b)%18446744073709551616:Nat):Int),.int .u64 ((if x<y+b then 1 else 0:Nat):Int)])) w:=Any7.bits_Sub64 Tryz.atS x y b hb w
open Go.RowKit in
def Tryz.apY(s Ny:ByteArray)(w:yt)(hs:s.size<=9223372036854775807)(dA:Ny.size<4294967281)(ayD:∀(j:Nat) b,Ny.data.toList[j]? =some b->b.toNat<128):
  wH Tryz.prog 220 #[.string s,.string Ny] w fun e w'=>e=.returned (.string ⟨(Lib.trimS s.data.toList Ny.data.toList).toArray⟩)/\Below w.heap.size w w':=
 Any.strings_Trim_laid Tryz.av0 (by kernel_rfl) s Ny w hs dA ayD
def Tryz.s1_3(w:yt)(h:w.ShapedOpen Tryz.prog):∃m,w.cell? ⟨1,0,none⟩=some (.int .i64 m):=Tryz.atP.s1_3 w h
def Tryz.aeP:wo:=⟨fun | 166=>251 | 240=>287 | 276=>309 | n=>n,fun | 20=>20 | 37=>283 | 70=>282 | 72=>285 | 75=>258 | 80=>242 | 164=>333 | n=>n,fun | n=>n⟩
def Tryz.awb:ycn Tryz.prog Tryz.aeP:=by
 repeat' first | kernel_rfl | (intro w;kernel_rfl) | decide | constructor
def Tryz.apE:Builder.Extra Tryz.prog Tryz.aeP:=by
 repeat' first | kernel_rfl | (intro w;kernel_rfl) | decide | constructor
open Go.RowKit in
def Tryz.Builder_WriteString(B b:Nat)(bs:List Value)(s:ByteArray)(w:yt)(h:Lib.IsBuilder 285 5 B b bs w)(hlen:bs.length+s.size<=140737488355328)(hBw:B<=w.heap.size):
  wH Tryz.prog 251 #[.pointer (some ⟨b,0,none⟩),.string s] w fun e w'=>e=.returned (.tuple #[.int .i64 s.size,.nilIface])/\(Lib.BuilderAt 285 5 B b (.pointer (some ⟨b,0,none⟩)) (bs++Lib.strCells s) w'/\Below B w w'):=Any.Builder_WriteString Tryz.awb Tryz.apE B b bs s w h hlen hBw
end Go.Proofs
