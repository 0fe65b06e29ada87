import Derived.Shelf.Small.Bits
import Derived.Shelf.Small.Wraps
import Derived.Shelf.Strconv.Atoi
import Derived.Shelf.LaysM
import Derived.Shelf.Strconv.Itoa3
import Derived.Shelf.Strings.Cut
import Derived.Shelf.Strings.Prefix
import Derived.Shelf.Bits.Mul64
import Derived.Shelf.Strings.Repeat
import Derived.Shelf.Strings.SlTrimAscii
import Derived.Shelf.Spec.BitsCarry
import Derived.Shelf.Strings.Builder1
import Derived.Test.YtabhmepaflffeaaGreatDoorProg
set_option linter.all false
set_option maxRecDepth 100000
open Go renaming Calls->wz,World->yo
open Go.Proofs.Lays renaming n101->ycN,n103->ycG,n105->ycP,n129->ycI,n134->ycF,n145->ycL,n160->ycE,n166->ycQ,n169->ycD,n172->ycH,n264->ycO,n283->ycJ,n285->ycK,n99->ycM
open Go.Proofs.Lays7 renaming n25->yct,n26->ycu
open Go.Proofs.LaysM renaming n145->ycs,n171->ycr,n284->ycq
open Go.Shelf renaming Ren->wg
namespace Go.Proofs
open Go.Shelf
def Tryz.abY:wg:=⟨fun | 169=>254 | n=>n,fun | 70=>311 | 9=>9 | 0=>0 | 72=>313 | 37=>65 | 127=>334 | 3=>3 | 5=>5 | n=>n,fun | n=>n⟩
def Tryz.atn:ycD Tryz.prog Tryz.abY:=by
 repeat' first | kernel_rfl | (intro w;kernel_rfl) | decide | constructor
def Tryz.am0:Builder.Extra Tryz.prog Tryz.abY:=by
 repeat' first | kernel_rfl | (intro w;kernel_rfl) | decide | constructor
open Go.RowKit in
def Tryz.Builder_String_any(B b:Nat)(l:List UInt8)(w:yo)(h:Lib.IsBuilder 313 5 B b (Lib.byteCells l) w)(hBw:B<=w.heap.size):
  wz Tryz.prog 254 #[.pointer (some ⟨b,0,none⟩)] w fun e w'=>e=.returned (.string ⟨l.toArray⟩)/\Below B w w':=Any.Builder_String_any Tryz.atn Tryz.am0 B b l w h hBw
def Tryz.anF:wg:=⟨fun | 160=>266 | 232=>297 | 231=>296 | 227=>298 | 234=>300 | 233=>299 | 236=>302 | 235=>301 | 228=>321 | 271=>324 | 151=>323 | 197=>322 | 120=>337 | 152=>336 | 260=>335 | 137=>342 | 119=>343 | 224=>305 | 225=>304 | 217=>303 | 266=>325 | n=>n,fun | 9=>9 | 4=>4 | 3=>3 | 5=>5 | 117=>347 | 116=>346 | 0=>0 | 124=>350 | 21=>21 | 105=>370 | 46=>322 | 119=>391 | 139=>394 | 138=>393 | n=>n,fun | 3=>10 | 4=>11 | n=>n⟩
def Tryz.ato:ycE Tryz.prog Tryz.anF:=by
 repeat' first | kernel_rfl | (intro w;kernel_rfl) | decide | constructor
def Tryz.anG:wg:=⟨fun | 134=>278 | 129=>259 | n=>n,fun | 53=>285 | 3=>3 | 4=>4 | 46=>322 | 5=>5 | 9=>9 | n=>n,fun | n=>n⟩
def Tryz.atp:ycF Tryz.prog Tryz.anG:=by
 repeat' first | kernel_rfl | (intro w;kernel_rfl) | decide | constructor
def Tryz.bits_LeadingZeros64(x:Int)(w:yo)(h0:0<=x)(h1:x<=18446744073709551615):
  wz Tryz.prog 278 #[.int .u64 x] w fun e w'=>e=.returned (.int .i64 (64-(Lib.bitLen x.toNat:Int)))/\w'=w:=Any.bits_LeadingZeros64 Tryz.atp x w h0 h1
def Tryz.anH:wg:=⟨fun | 103=>212 | 210=>265 | 206=>268 | n=>n,fun | 9=>9 | 4=>4 | 24=>273 | 3=>3 | n=>n,fun | n=>n⟩
def Tryz.atq:ycG Tryz.prog Tryz.anH:=by
 repeat' first | kernel_rfl | (intro w;kernel_rfl) | decide | constructor
open Go.RowKit in
def Tryz.strings_CutPrefix(s p:ByteArray)(w:yo):
  wz Tryz.prog 212 #[.string s,.string p] w fun e w'=>e=.returned (.tuple #[.string ⟨(Lib.trimPrefix s.data.toList p.data.toList).toArray⟩,.bool (Lib.hasPrefix s.data.toList p.data.toList)])/\w'=w:=Any.strings_CutPrefix Tryz.atq s p w
def Tryz.anI:wg:=⟨fun | 172=>220 | 244=>270 | 245=>271 | 247=>307 | 279=>308 | 280=>309 | 281=>310 | 282=>311 | 287=>327 | 316=>328 | 171=>249 | 205=>329 | 321=>338 | 322=>339 | 243=>279 | 246=>312 | 283=>313 | 284=>314 | 285=>315 | 286=>316 | 129=>259 | 317=>330 | 318=>331 | 319=>332 | 320=>333 | 337=>340 | 338=>341 | n=>n,fun | 9=>9 | 3=>3 | 75=>279 | 76=>280 | 4=>4 | 5=>5 | 167=>353 | 37=>65 | 0=>0 | 85=>354 | 2=>2 | 168=>356 | 53=>285 | 175=>374 | 46=>322 | 210=>378 | 127=>334 | 145=>389 | 143=>387 | 21=>21 | 171=>360 | 173=>362 | 212=>328 | 51=>364 | 20=>20 | 213=>381 | 232=>396 | 233=>397 | 80=>250 | n=>n,fun | 15=>7 | 16=>8 | 17=>9 | 18=>12 | 19=>13 | n=>n⟩
def Tryz.atr:ycH Tryz.prog Tryz.anI:=by
 repeat' first | kernel_rfl | (intro w;kernel_rfl) | decide | constructor
open Go.RowKit in
def Tryz.strconv_Atoi(s:ByteArray)(n:Int)(hl:s.size<=18)(h:Lib.atoi s.data.toList=some n)(w:yo):
  wz Tryz.prog 220 #[.string s] w fun e w'=>e=.returned (.tuple #[.int .i64 n,.nilIface])/\∃t,w'=Lib.bytesWorld w 5 t:=Any.strconv_Atoi Tryz.atr s n hl h w
def Tryz.anJ:wg:=⟨fun | 129=>259 | n=>n,fun | 53=>285 | 3=>3 | 4=>4 | 46=>322 | 5=>5 | 9=>9 | n=>n,fun | n=>n⟩
def Tryz.ats:ycI Tryz.prog Tryz.anJ:=by
 repeat' first | kernel_rfl | (intro w;kernel_rfl) | decide | constructor
def Tryz.bits_Len64(x:Int)(w:yo)(h0:0<=x)(h1:x<=18446744073709551615):
  wz Tryz.prog 259 #[.int .u64 x] w fun e w'=>e=.returned (.int .i64 (Lib.bitLen x.toNat))/\w'=w:=Any.bits_Len64 Tryz.ats x w h0 h1
def Tryz.anK:wg:=⟨fun | 283=>313 | n=>n,fun | 3=>3 | 9=>9 | 4=>4 | n=>n,fun | n=>n⟩
def Tryz.att:ycJ Tryz.prog Tryz.anK:=by
 repeat' first | kernel_rfl | (intro w;kernel_rfl) | decide | constructor
open Go.Lib in
def Tryz.internal_strconv_small(i:Nat)(h:i<100)(w:yo):
  wz Tryz.prog 313 #[.int .i64 i] w fun e w'=>e=.returned (.string ⟨(Lib.decDigits i).toArray⟩)/\w'=w:=Any.internal_strconv_small Tryz.att i h w
def Tryz.anl:wg:=⟨fun | 284=>314 | 129=>259 | 317=>330 | 318=>331 | n=>n,fun | 53=>285 | 3=>3 | 212=>328 | 0=>0 | 4=>4 | 46=>322 | 5=>5 | 9=>9 | n=>n,fun | 17=>9 | n=>n⟩
def Tryz.arc:ycq Tryz.prog Tryz.anl:=by
 repeat' first | kernel_rfl | (intro w;kernel_rfl) | decide | constructor
open Go.Lib in
def Tryz.internal_strconv_numDigits(u:Nat)(h1:1<=u)(h2:u<18446744073709551616)(w:yo)(FP:Lib.TabIs Tryz.prog w "internal/strconv.uint64pow10" .u64 Lib.pow10Tab):
  wz Tryz.prog 314 #[.int .u64 u] w fun e w'=>e=.returned (.int .i64 (Lib.nDigits u))/\w'=w:=Any.internal_strconv_numDigits Tryz.arc u h1 h2 w FP
def Tryz.anL:wg:=⟨fun | 285=>315 | n=>n,fun | 37=>65 | 53=>285 | 3=>3 | 4=>4 | 51=>364 | 9=>9 | 5=>5 | 0=>0 | n=>n,fun | n=>n⟩
def Tryz.atu:ycK Tryz.prog Tryz.anL:=by
 repeat' first | kernel_rfl | (intro w;kernel_rfl) | decide | constructor
open Go.RowKit Go.Sort Go.Lib in
def Tryz.internal_strconv_formatBase10(eS off cap:Nat)(u:Nat)(d:Array UInt8)(w:yo)(hH:Holds (fun (b:UInt8)=>Value.int .u8 (b.toNat:Int)) w eS off d)(hu:u<10^d.size)(FQ:u<18446744073709551616)(eZ:d.size<4611686018427387904):
  wz Tryz.prog 315 #[.slice (some ⟨eS,off,none⟩) d.size cap,.int .u64 u] w fun e w'=>
   e=.returned (.tuple #[])/\∃(n v':Nat) (dk:Array UInt8),w'=(putRow (fun (b:UInt8)=>Value.int .u8 (b.toNat:Int)) w eS off dk).drewN n/\FmtInv d.size u 0 v' dk:=Any.internal_strconv_formatBase10 Tryz.atu eS off cap u d w hH hu FQ eZ
def Tryz.anm:wg:=⟨fun | 171=>249 | 243=>279 | 246=>312 | 283=>313 | 284=>314 | 285=>315 | 286=>316 | 129=>259 | 317=>330 | 318=>331 | 319=>332 | 320=>333 | 337=>340 | 338=>341 | n=>n,fun | 3=>3 | 9=>9 | 2=>2 | 4=>4 | 171=>360 | 0=>0 | 53=>285 | 37=>65 | 5=>5 | 173=>362 | 212=>328 | 51=>364 | 20=>20 | 213=>381 | 46=>322 | 232=>396 | 233=>397 | n=>n,fun | 17=>9 | 18=>12 | 19=>13 | n=>n⟩
def Tryz.ard:ycr Tryz.prog Tryz.anm:=by
 repeat' first | kernel_rfl | (intro w;kernel_rfl) | decide | constructor
open Go.RowKit Go.Sort Go.Lib in
def Tryz.strconv_Itoa(n:Int)(h0: -9223372036854775808<=n)(h1:n<=9223372036854775807)(w:yo)(FP:Lib.TabIs Tryz.prog w "internal/strconv.uint64pow10" .u64 Lib.pow10Tab):
  wz Tryz.prog 249 #[.int .i64 n] w fun e w'=>e=.returned (.string ⟨(Lib.itoa n).toArray⟩)/\∃k os,w'=grow (w.drewN k) os:=Any.strconv_Itoa Tryz.ard n h0 h1 w FP
def Tryz.anM:wg:=⟨fun | 145=>145 | 220=>217 | 219=>267 | 217=>303 | 225=>304 | 224=>305 | 267=>306 | 266=>325 | 314=>326 | n=>n,fun | 9=>9 | 4=>4 | 59=>216 | 3=>3 | 5=>5 | 46=>322 | 146=>365 | 51=>364 | n=>n,fun | 1=>4 | n=>n⟩
def Tryz.atv:ycL Tryz.prog Tryz.anM:=by
 repeat' first | kernel_rfl | (intro w;kernel_rfl) | decide | constructor
open Go.RowKit Go.Lib in
def Tryz.strings_Cut(s sep:ByteArray)(m:Int)(w:yo)(hs:s.size<4294967281)(hm:w.cell? ⟨4,0,none⟩=some (.int .i64 m)):
  wz Tryz.prog 145 #[.string s,.string sep] w fun e w'=>e=.returned (.tuple #[.string ⟨(Lib.cut s.data.toList sep.data.toList).1.toArray⟩,.string ⟨(Lib.cut s.data.toList sep.data.toList).2.1.toArray⟩,.bool (Lib.cut s.data.toList sep.data.toList).2.2])/\∃n,w'=w.drewN n:=Any.strings_Cut Tryz.atv s sep m w hs hm
def Tryz.ann:wg:=⟨fun | 145=>145 | 220=>217 | 219=>267 | 217=>303 | 225=>304 | 224=>305 | 267=>306 | 266=>325 | 314=>326 | n=>n,fun | 9=>9 | 4=>4 | 59=>216 | 3=>3 | 5=>5 | 46=>322 | 146=>365 | 51=>364 | n=>n,fun | 1=>4 | n=>n⟩
def Tryz.are:ycs Tryz.prog Tryz.ann:=by
 repeat' first | kernel_rfl | (intro w;kernel_rfl) | exact fun w h=>Go.Proofs.cell_of_shapedOpen_int (zero:=#[.int .i64 0]) (t:=3) h (of_decide_eq_true (by kernel_rfl)) (by kernel_rfl) rfl (by kernel_rfl) (by kernel_rfl) Tryz.underlying3 | decide | constructor
def Tryz.aoj:wg:=⟨fun | 99=>218 | 206=>268 | n=>n,fun | 9=>9 | 4=>4 | 3=>3 | n=>n,fun | n=>n⟩
def Tryz.avX:ycM Tryz.prog Tryz.aoj:=by
 repeat' first | kernel_rfl | (intro w;kernel_rfl) | decide | constructor
open Go.RowKit Go.Lib in
def Tryz.strings_HasPrefix(s p:ByteArray)(w:yo):
  wz Tryz.prog 218 #[.string s,.string p] w fun e w'=>e=.returned (.bool (Lib.hasPrefix s.data.toList p.data.toList))/\w'=w:=Any.strings_HasPrefix Tryz.avX s p w
def Tryz.anN:wg:=⟨fun | 101=>219 | 208=>269 | 206=>268 | n=>n,fun | 9=>9 | 4=>4 | 3=>3 | n=>n,fun | n=>n⟩
def Tryz.atw:ycN Tryz.prog Tryz.anN:=by
 repeat' first | kernel_rfl | (intro w;kernel_rfl) | decide | constructor
open Go.RowKit Go.Lib in
def Tryz.strings_TrimPrefix(s p:ByteArray)(w:yo):
  wz Tryz.prog 219 #[.string s,.string p] w fun e w'=>e=.returned (.string ⟨(Lib.trimPrefix s.data.toList p.data.toList).toArray⟩)/\w'=w:=Any.strings_TrimPrefix Tryz.atw s p w
def Tryz.anO:wg:=⟨fun | 264=>225 | n=>n,fun | 53=>285 | 46=>322 | n=>n,fun | n=>n⟩
def Tryz.atx:ycO Tryz.prog Tryz.anO:=by
 repeat' first | kernel_rfl | (intro w;kernel_rfl) | decide | constructor
open Go.RowKit Go.Lib in
def Tryz.bits_Mul64(x y:Nat)(hx:x<18446744073709551616)(hy:y<18446744073709551616)(w:yo):
  wz Tryz.prog 225 #[.int .u64 x,.int .u64 y] w fun e w'=>e=.returned (.tuple #[.int .u64 ((x*y/18446744073709551616:Nat):Int),.int .u64 ((x*y%18446744073709551616:Nat):Int)])/\w'=w:=Any.bits_Mul64 Tryz.atx x y hx hy w
def Tryz.abZ:wg:=⟨fun | 105=>252 | 212=>284 | 99=>218 | 165=>285 | 166=>253 | 170=>286 | 169=>254 | 263=>317 | 264=>225 | 206=>268 | 240=>287 | 241=>318 | 276=>319 | 277=>334 | n=>n,fun | 9=>9 | 3=>3 | 4=>4 | 20=>20 | 0=>0 | 46=>322 | 109=>331 | 5=>5 | 72=>313 | 76=>280 | 51=>364 | 146=>365 | 53=>285 | 148=>286 | 70=>311 | 37=>65 | 75=>279 | 127=>334 | 164=>367 | 80=>250 | n=>n,fun | n=>n⟩
def Tryz.aty:ycP Tryz.prog Tryz.abZ:=by
 repeat' first | kernel_rfl | (intro w;kernel_rfl) | decide | constructor
def Tryz.am1:Builder.Extra Tryz.prog Tryz.abZ:=by
 repeat' first | kernel_rfl | (intro w;kernel_rfl) | decide | constructor
open Go.RowKit Go.Lib in
def Tryz.strings_Repeat(s:ByteArray)(c:Nat)(w:yo)(hc:c<=9223372036854775807)(hlen:s.size*c<=140737488355328):
  wz Tryz.prog 252 #[.string s,.int .i64 c] w fun e w'=>e=.returned (.string ⟨(Lib.repeatL s.data.toList c).toArray⟩)/\Below w.heap.size w w':=Any.strings_Repeat Tryz.aty Tryz.am1 s c w hc hlen
def Tryz.ano:wg:=⟨fun | 25=>272 | n=>n,fun | 22=>285 | n=>n,fun | n=>n⟩
def Tryz.arf:yct Tryz.prog Tryz.ano:=by
 repeat' first | kernel_rfl | (intro w;kernel_rfl) | decide | constructor
def Tryz.anp:wg:=⟨fun | 26=>274 | n=>n,fun | 22=>285 | n=>n,fun | n=>n⟩
def Tryz.arh:ycu Tryz.prog Tryz.anp:=by
 repeat' first | kernel_rfl | (intro w;kernel_rfl) | decide | constructor
def Tryz.bits_Add64(x y c:Nat)(hc:c<=1)(w:yo):
  (callFunc 272 #[.int .u64 x,.int .u64 y,.int .u64 c]).run Tryz.prog w=
   .ok (.value (.tuple #[.int .u64 (((x+y+c)%18446744073709551616:Nat):Int),.int .u64 (((x+y+c)/18446744073709551616:Nat):Int)])) w:=Any7.bits_Add64 Tryz.arf x y c hc w
def Tryz.bits_Sub64(x y b:Nat)(hb:b<=1)(w:yo):
  (callFunc 274 #[.int .u64 x,.int .u64 y,.int .u64 b]).run Tryz.prog w=
   .ok (.value (.tuple #[.int .u64 (((x+18446744073709551616-y-b)%18446744073709551616:Nat):Int),.int .u64 ((if x<y+b then 1 else 0:Nat):Int)])) w:=Any7.bits_Sub64 Tryz.arh x y b hb w
open Go.RowKit in
def Tryz.anq(s K4:ByteArray)(w:yo)(hs:s.size<=9223372036854775807)(iG:K4.size<4294967281)(avY:∀(j:Nat) b,K4.data.toList[j]? =some b->b.toNat<128):
  wz Tryz.prog 266 #[.string s,.string K4] w fun e w'=>e=.returned (.string ⟨(Lib.trimS s.data.toList K4.data.toList).toArray⟩)/\Below w.heap.size w w':=
 Any.strings_Trim_laid Tryz.ato (by kernel_rfl) s K4 w hs iG avY
def Tryz.s1_3(w:yo)(h:w.ShapedOpen Tryz.prog):∃m,w.cell? ⟨4,0,none⟩=some (.int .i64 m):=Tryz.are.s1_3 w h
def Tryz.ab0:wg:=⟨fun | 166=>253 | 240=>287 | 276=>319 | n=>n,fun | 20=>20 | 37=>65 | 70=>311 | 72=>313 | 75=>279 | 80=>250 | 164=>367 | n=>n,fun | n=>n⟩
def Tryz.atz:ycQ Tryz.prog Tryz.ab0:=by
 repeat' first | kernel_rfl | (intro w;kernel_rfl) | decide | constructor
def Tryz.am2:Builder.Extra Tryz.prog Tryz.ab0:=by
 repeat' first | kernel_rfl | (intro w;kernel_rfl) | decide | constructor
open Go.RowKit in
def Tryz.Builder_WriteString(B b:Nat)(bs:List Value)(s:ByteArray)(w:yo)(h:Lib.IsBuilder 313 5 B b bs w)(hlen:bs.length+s.size<=140737488355328)(hBw:B<=w.heap.size):
  wz Tryz.prog 253 #[.pointer (some ⟨b,0,none⟩),.string s] w fun e w'=>e=.returned (.tuple #[.int .i64 s.size,.nilIface])/\(Lib.BuilderAt 313 5 B b (.pointer (some ⟨b,0,none⟩)) (bs++Lib.strCells s) w'/\Below B w w'):=Any.Builder_WriteString Tryz.atz Tryz.am2 B b bs s w h hlen hBw
end Go.Proofs
