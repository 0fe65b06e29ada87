import Derived.Shelf.Small.Bits
import Derived.Shelf.Small.Wraps
import Derived.Shelf.Strconv.Atoi
import Derived.Shelf.LaysM
import Derived.Shelf.Strconv.Itoa3
import Derived.Shelf.Strings.Cut
import Derived.Shelf.Strings.Prefix
import Derived.Shelf.Bits.Mul64
import Derived.Shelf.Strings.Repeat
import Derived.Shelf.Strings.SlTrimAscii
import Derived.Shelf.Spec.BitsCarry
import Derived.Shelf.Strings.Builder1
import Derived.Test.YtebpicijmcnecaaGreatDoorProg
set_option linter.all false
set_option maxRecDepth 100000
open Go renaming Calls->wz,World->yj
open Go.Proofs.Lays renaming n101->yco,n103->ych,n105->ycq,n129->ycj,n134->ycg,n145->ycm,n160->ycf,n166->ycr,n169->yce,n172->yci,n264->ycp,n283->yck,n285->ycl,n99->ycn
open Go.Proofs.Lays7 renaming n25->ybT,n26->ybU
open Go.Proofs.LaysM renaming n145->ybS,n171->ybR,n284->ybQ
open Go.Shelf renaming Ren->wc
namespace Go.Proofs
open Go.Shelf
def Tryz.ZS:wc:=⟨fun | 169=>245 | n=>n,fun | 70=>300 | 9=>9 | 0=>0 | 72=>302 | 37=>45 | 127=>328 | 3=>3 | 5=>5 | n=>n,fun | n=>n⟩
def Tryz.aqk:yce Tryz.prog Tryz.ZS:=by
 repeat' first | kernel_rfl | (intro w;kernel_rfl) | decide | constructor
def Tryz.aj0:Builder.Extra Tryz.prog Tryz.ZS:=by
 repeat' first | kernel_rfl | (intro w;kernel_rfl) | decide | constructor
open Go.RowKit in
def Tryz.Builder_String_any(B b:Nat)(l:List UInt8)(w:yj)(h:Lib.IsBuilder 302 5 B b (Lib.byteCells l) w)(X6:B<=w.heap.size):
  wz Tryz.prog 245 #[.pointer (some ⟨b,0,none⟩)] w fun e w'=>e=.returned (.string ⟨l.toArray⟩)/\Below B w w':=Any.Builder_String_any Tryz.aqk Tryz.aj0 B b l w h X6
def Tryz.akB:wc:=⟨fun | 160=>249 | 232=>289 | 231=>288 | 227=>290 | 234=>292 | 233=>291 | 236=>294 | 235=>293 | 228=>316 | 271=>319 | 151=>318 | 197=>317 | 120=>332 | 152=>331 | 260=>330 | 137=>337 | 119=>338 | 224=>297 | 225=>296 | 217=>295 | 266=>320 | n=>n,fun | 9=>9 | 4=>4 | 3=>3 | 5=>5 | 117=>337 | 116=>336 | 0=>0 | 124=>340 | 21=>21 | 105=>364 | 46=>309 | 119=>385 | 139=>388 | 138=>387 | n=>n,fun | 3=>10 | 4=>11 | n=>n⟩
def Tryz.aql:ycf Tryz.prog Tryz.akB:=by
 repeat' first | kernel_rfl | (intro w;kernel_rfl) | decide | constructor
def Tryz.akC:wc:=⟨fun | 134=>273 | 129=>268 | n=>n,fun | 53=>260 | 3=>3 | 4=>4 | 46=>309 | 5=>5 | 9=>9 | n=>n,fun | n=>n⟩
def Tryz.aqm:ycg Tryz.prog Tryz.akC:=by
 repeat' first | kernel_rfl | (intro w;kernel_rfl) | decide | constructor
def Tryz.bits_LeadingZeros64(x:Int)(w:yj)(h0:0<=x)(h1:x<=18446744073709551615):
  wz Tryz.prog 273 #[.int .u64 x] w fun e w'=>e=.returned (.int .i64 (64-(Lib.bitLen x.toNat:Int)))/\w'=w:=Any.bits_LeadingZeros64 Tryz.aqm x w h0 h1
def Tryz.akD:wc:=⟨fun | 103=>180 | 210=>248 | 206=>252 | n=>n,fun | 9=>9 | 4=>4 | 24=>246 | 3=>3 | n=>n,fun | n=>n⟩
def Tryz.aqn:ych Tryz.prog Tryz.akD:=by
 repeat' first | kernel_rfl | (intro w;kernel_rfl) | decide | constructor
open Go.RowKit in
def Tryz.strings_CutPrefix(s p:ByteArray)(w:yj):
  wz Tryz.prog 180 #[.string s,.string p] w fun e w'=>e=.returned (.tuple #[.string ⟨(Lib.trimPrefix s.data.toList p.data.toList).toArray⟩,.bool (Lib.hasPrefix s.data.toList p.data.toList)])/\w'=w:=Any.strings_CutPrefix Tryz.aqn s p w
def Tryz.akE:wc:=⟨fun | 172=>188 | 244=>254 | 245=>255 | 247=>299 | 279=>300 | 280=>301 | 281=>302 | 282=>303 | 287=>322 | 316=>323 | 171=>240 | 205=>324 | 321=>333 | 322=>334 | 243=>274 | 246=>307 | 283=>308 | 284=>309 | 285=>310 | 286=>311 | 129=>268 | 317=>325 | 318=>326 | 319=>327 | 320=>328 | 337=>335 | 338=>336 | n=>n,fun | 9=>9 | 3=>3 | 75=>252 | 76=>253 | 4=>4 | 5=>5 | 167=>343 | 37=>45 | 0=>0 | 85=>344 | 2=>2 | 168=>346 | 53=>260 | 175=>368 | 46=>309 | 210=>372 | 127=>328 | 145=>383 | 143=>381 | 21=>21 | 171=>354 | 173=>356 | 212=>322 | 51=>358 | 20=>20 | 213=>375 | 232=>390 | 233=>391 | 80=>231 | n=>n,fun | 15=>7 | 16=>8 | 17=>9 | 18=>12 | 19=>13 | n=>n⟩
def Tryz.aqo:yci Tryz.prog Tryz.akE:=by
 repeat' first | kernel_rfl | (intro w;kernel_rfl) | decide | constructor
open Go.RowKit in
def Tryz.strconv_Atoi(s:ByteArray)(n:Int)(hl:s.size<=18)(h:Lib.atoi s.data.toList=some n)(w:yj):
  wz Tryz.prog 188 #[.string s] w fun e w'=>e=.returned (.tuple #[.int .i64 n,.nilIface])/\∃t,w'=Lib.bytesWorld w 5 t:=Any.strconv_Atoi Tryz.aqo s n hl h w
def Tryz.akF:wc:=⟨fun | 129=>268 | n=>n,fun | 53=>260 | 3=>3 | 4=>4 | 46=>309 | 5=>5 | 9=>9 | n=>n,fun | n=>n⟩
def Tryz.aqp:ycj Tryz.prog Tryz.akF:=by
 repeat' first | kernel_rfl | (intro w;kernel_rfl) | decide | constructor
def Tryz.bits_Len64(x:Int)(w:yj)(h0:0<=x)(h1:x<=18446744073709551615):
  wz Tryz.prog 268 #[.int .u64 x] w fun e w'=>e=.returned (.int .i64 (Lib.bitLen x.toNat))/\w'=w:=Any.bits_Len64 Tryz.aqp x w h0 h1
def Tryz.akG:wc:=⟨fun | 283=>308 | n=>n,fun | 3=>3 | 9=>9 | 4=>4 | n=>n,fun | n=>n⟩
def Tryz.aqq:yck Tryz.prog Tryz.akG:=by
 repeat' first | kernel_rfl | (intro w;kernel_rfl) | decide | constructor
open Go.Lib in
def Tryz.internal_strconv_small(i:Nat)(h:i<100)(w:yj):
  wz Tryz.prog 308 #[.int .i64 i] w fun e w'=>e=.returned (.string ⟨(Lib.decDigits i).toArray⟩)/\w'=w:=Any.internal_strconv_small Tryz.aqq i h w
def Tryz.akj:wc:=⟨fun | 284=>309 | 129=>268 | 317=>325 | 318=>326 | n=>n,fun | 53=>260 | 3=>3 | 212=>322 | 0=>0 | 4=>4 | 46=>309 | 5=>5 | 9=>9 | n=>n,fun | 17=>9 | n=>n⟩
def Tryz.aon:ybQ Tryz.prog Tryz.akj:=by
 repeat' first | kernel_rfl | (intro w;kernel_rfl) | decide | constructor
open Go.Lib in
def Tryz.internal_strconv_numDigits(u:Nat)(h1:1<=u)(h2:u<18446744073709551616)(w:yj)(EH:Lib.TabIs Tryz.prog w "internal/strconv.uint64pow10" .u64 Lib.pow10Tab):
  wz Tryz.prog 309 #[.int .u64 u] w fun e w'=>e=.returned (.int .i64 (Lib.nDigits u))/\w'=w:=Any.internal_strconv_numDigits Tryz.aon u h1 h2 w EH
def Tryz.akH:wc:=⟨fun | 285=>310 | n=>n,fun | 37=>45 | 53=>260 | 3=>3 | 4=>4 | 51=>358 | 9=>9 | 5=>5 | 0=>0 | n=>n,fun | n=>n⟩
def Tryz.aqr:ycl Tryz.prog Tryz.akH:=by
 repeat' first | kernel_rfl | (intro w;kernel_rfl) | decide | constructor
open Go.RowKit Go.Sort Go.Lib in
def Tryz.internal_strconv_formatBase10(ew off cap:Nat)(u:Nat)(d:Array UInt8)(w:yj)(hH:Holds (fun (b:UInt8)=>Value.int .u8 (b.toNat:Int)) w ew off d)(hu:u<10^d.size)(EI:u<18446744073709551616)(eG:d.size<4611686018427387904):
  wz Tryz.prog 310 #[.slice (some ⟨ew,off,none⟩) d.size cap,.int .u64 u] w fun e w'=>
   e=.returned (.tuple #[])/\∃(n v':Nat) (dk:Array UInt8),w'=(putRow (fun (b:UInt8)=>Value.int .u8 (b.toNat:Int)) w ew off dk).drewN n/\FmtInv d.size u 0 v' dk:=Any.internal_strconv_formatBase10 Tryz.aqr ew off cap u d w hH hu EI eG
def Tryz.akk:wc:=⟨fun | 171=>240 | 243=>274 | 246=>307 | 283=>308 | 284=>309 | 285=>310 | 286=>311 | 129=>268 | 317=>325 | 318=>326 | 319=>327 | 320=>328 | 337=>335 | 338=>336 | n=>n,fun | 3=>3 | 9=>9 | 2=>2 | 4=>4 | 171=>354 | 0=>0 | 53=>260 | 37=>45 | 5=>5 | 173=>356 | 212=>322 | 51=>358 | 20=>20 | 213=>375 | 46=>309 | 232=>390 | 233=>391 | n=>n,fun | 17=>9 | 18=>12 | 19=>13 | n=>n⟩
def Tryz.aoo:ybR Tryz.prog Tryz.akk:=by
 repeat' first | kernel_rfl | (intro w;kernel_rfl) | decide | constructor
open Go.RowKit Go.Sort Go.Lib in
def Tryz.strconv_Itoa(n:Int)(h0: -9223372036854775808<=n)(h1:n<=9223372036854775807)(w:yj)(EH:Lib.TabIs Tryz.prog w "internal/strconv.uint64pow10" .u64 Lib.pow10Tab):
  wz Tryz.prog 240 #[.int .i64 n] w fun e w'=>e=.returned (.string ⟨(Lib.itoa n).toArray⟩)/\∃k os,w'=grow (w.drewN k) os:=Any.strconv_Itoa Tryz.aoo n h0 h1 w EH
def Tryz.akI:wc:=⟨fun | 145=>113 | 220=>185 | 219=>251 | 217=>295 | 225=>296 | 224=>297 | 267=>298 | 266=>320 | 314=>321 | n=>n,fun | 9=>9 | 4=>4 | 59=>184 | 3=>3 | 5=>5 | 46=>309 | 146=>359 | 51=>358 | n=>n,fun | 1=>4 | n=>n⟩
def Tryz.aqs:ycm Tryz.prog Tryz.akI:=by
 repeat' first | kernel_rfl | (intro w;kernel_rfl) | decide | constructor
open Go.RowKit Go.Lib in
def Tryz.strings_Cut(s sep:ByteArray)(m:Int)(w:yj)(hs:s.size<4294967281)(hm:w.cell? ⟨4,0,none⟩=some (.int .i64 m)):
  wz Tryz.prog 113 #[.string s,.string sep] w fun e w'=>e=.returned (.tuple #[.string ⟨(Lib.cut s.data.toList sep.data.toList).1.toArray⟩,.string ⟨(Lib.cut s.data.toList sep.data.toList).2.1.toArray⟩,.bool (Lib.cut s.data.toList sep.data.toList).2.2])/\∃n,w'=w.drewN n:=Any.strings_Cut Tryz.aqs s sep m w hs hm
def Tryz.akl:wc:=⟨fun | 145=>113 | 220=>185 | 219=>251 | 217=>295 | 225=>296 | 224=>297 | 267=>298 | 266=>320 | 314=>321 | n=>n,fun | 9=>9 | 4=>4 | 59=>184 | 3=>3 | 5=>5 | 46=>309 | 146=>359 | 51=>358 | n=>n,fun | 1=>4 | n=>n⟩
def Tryz.aop:ybS Tryz.prog Tryz.akl:=by
 repeat' first | kernel_rfl | (intro w;kernel_rfl) | exact fun w h=>Go.Proofs.cell_of_shapedOpen_int (zero:=#[.int .i64 0]) (t:=3) h (of_decide_eq_true (by kernel_rfl)) (by kernel_rfl) rfl (by kernel_rfl) (by kernel_rfl) Tryz.underlying3 | decide | constructor
def Tryz.ali:wc:=⟨fun | 99=>186 | 206=>252 | n=>n,fun | 9=>9 | 4=>4 | 3=>3 | n=>n,fun | n=>n⟩
def Tryz.asZ:ycn Tryz.prog Tryz.ali:=by
 repeat' first | kernel_rfl | (intro w;kernel_rfl) | decide | constructor
open Go.RowKit Go.Lib in
def Tryz.strings_HasPrefix(s p:ByteArray)(w:yj):
  wz Tryz.prog 186 #[.string s,.string p] w fun e w'=>e=.returned (.bool (Lib.hasPrefix s.data.toList p.data.toList))/\w'=w:=Any.strings_HasPrefix Tryz.asZ s p w
def Tryz.akJ:wc:=⟨fun | 101=>187 | 208=>253 | 206=>252 | n=>n,fun | 9=>9 | 4=>4 | 3=>3 | n=>n,fun | n=>n⟩
def Tryz.aqt:yco Tryz.prog Tryz.akJ:=by
 repeat' first | kernel_rfl | (intro w;kernel_rfl) | decide | constructor
open Go.RowKit Go.Lib in
def Tryz.strings_TrimPrefix(s p:ByteArray)(w:yj):
  wz Tryz.prog 187 #[.string s,.string p] w fun e w'=>e=.returned (.string ⟨(Lib.trimPrefix s.data.toList p.data.toList).toArray⟩)/\w'=w:=Any.strings_TrimPrefix Tryz.aqt s p w
def Tryz.akK:wc:=⟨fun | 264=>198 | n=>n,fun | 53=>260 | 46=>309 | n=>n,fun | n=>n⟩
def Tryz.aqu:ycp Tryz.prog Tryz.akK:=by
 repeat' first | kernel_rfl | (intro w;kernel_rfl) | decide | constructor
open Go.RowKit Go.Lib in
def Tryz.bits_Mul64(x y:Nat)(hx:x<18446744073709551616)(hy:y<18446744073709551616)(w:yj):
  wz Tryz.prog 198 #[.int .u64 x,.int .u64 y] w fun e w'=>e=.returned (.tuple #[.int .u64 ((x*y/18446744073709551616:Nat):Int),.int .u64 ((x*y%18446744073709551616:Nat):Int)])/\w'=w:=Any.bits_Mul64 Tryz.aqu x y hx hy w
def Tryz.ZT:wc:=⟨fun | 105=>243 | 212=>279 | 99=>186 | 165=>280 | 166=>244 | 170=>281 | 169=>245 | 263=>312 | 264=>198 | 206=>252 | 240=>282 | 241=>313 | 276=>314 | 277=>329 | n=>n,fun | 9=>9 | 3=>3 | 4=>4 | 20=>20 | 0=>0 | 46=>309 | 109=>325 | 5=>5 | 72=>302 | 76=>253 | 51=>358 | 146=>359 | 53=>260 | 148=>261 | 70=>300 | 37=>45 | 75=>252 | 127=>328 | 164=>361 | 80=>231 | n=>n,fun | n=>n⟩
def Tryz.aqv:ycq Tryz.prog Tryz.ZT:=by
 repeat' first | kernel_rfl | (intro w;kernel_rfl) | decide | constructor
def Tryz.aj1:Builder.Extra Tryz.prog Tryz.ZT:=by
 repeat' first | kernel_rfl | (intro w;kernel_rfl) | decide | constructor
open Go.RowKit Go.Lib in
def Tryz.strings_Repeat(s:ByteArray)(c:Nat)(w:yj)(hc:c<=9223372036854775807)(hlen:s.size*c<=140737488355328):
  wz Tryz.prog 243 #[.string s,.int .i64 c] w fun e w'=>e=.returned (.string ⟨(Lib.repeatL s.data.toList c).toArray⟩)/\Below w.heap.size w w':=Any.strings_Repeat Tryz.aqv Tryz.aj1 s c w hc hlen
def Tryz.akm:wc:=⟨fun | 25=>257 | n=>n,fun | 22=>260 | n=>n,fun | n=>n⟩
def Tryz.aoq:ybT Tryz.prog Tryz.akm:=by
 repeat' first | kernel_rfl | (intro w;kernel_rfl) | decide | constructor
def Tryz.akn:wc:=⟨fun | 26=>259 | n=>n,fun | 22=>260 | n=>n,fun | n=>n⟩
def Tryz.aor:ybU Tryz.prog Tryz.akn:=by
 repeat' first | kernel_rfl | (intro w;kernel_rfl) | decide | constructor
def Tryz.bits_Add64(x y c:Nat)(hc:c<=1)(w:yj):
  (callFunc 257 #[.int .u64 x,.int .u64 y,.int .u64 c]).run Tryz.prog w=
   .ok (.value (.tuple #[.int .u64 (((x+y+c)%18446744073709551616:Nat):Int),.int .u64 (((x+y+c)/18446744073709551616:Nat):Int)])) w:=Any7.bits_Add64 Tryz.aoq x y c hc w
def Tryz.bits_Sub64(x y b:Nat)(hb:b<=1)(w:yj):
  (callFunc 259 #[.int .u64 x,.int .u64 y,.int .u64 b]).run Tryz.prog w=
   .ok (.value (.tuple #[.int .u64 (((x+18446744073709551616-y-b)%18446744073709551616:Nat):Int),.int .u64 ((if x<y+b then 1 else 0:Nat):Int)])) w:=Any7.bits_Sub64 Tryz.aor x y b hb w
open Go.RowKit in
def Tryz.ako(s JT:ByteArray)(w:yj)(hs:s.size<=9223372036854775807)(BC:JT.size<4294967281)(as0:∀(j:Nat) b,JT.data.toList[j]? =some b->b.toNat<128):
  wz Tryz.prog 249 #[.string s,.string JT] w fun e w'=>e=.returned (.string ⟨(Lib.trimS s.data.toList JT.data.toList).toArray⟩)/\Below w.heap.size w w':=
 Any.strings_Trim_laid Tryz.aql (by kernel_rfl) s JT w hs BC as0
def Tryz.s1_3(w:yj)(h:w.ShapedOpen Tryz.prog):∃m,w.cell? ⟨4,0,none⟩=some (.int .i64 m):=Tryz.aop.s1_3 w h
def Tryz.ZU:wc:=⟨fun | 166=>244 | 240=>282 | 276=>314 | n=>n,fun | 20=>20 | 37=>45 | 70=>300 | 72=>302 | 75=>252 | 80=>231 | 164=>361 | n=>n,fun | n=>n⟩
def Tryz.aqw:ycr Tryz.prog Tryz.ZU:=by
 repeat' first | kernel_rfl | (intro w;kernel_rfl) | decide | constructor
def Tryz.aj2:Builder.Extra Tryz.prog Tryz.ZU:=by
 repeat' first | kernel_rfl | (intro w;kernel_rfl) | decide | constructor
open Go.RowKit in
def Tryz.Builder_WriteString(B b:Nat)(bs:List Value)(s:ByteArray)(w:yj)(h:Lib.IsBuilder 302 5 B b bs w)(hlen:bs.length+s.size<=140737488355328)(X6:B<=w.heap.size):
  wz Tryz.prog 244 #[.pointer (some ⟨b,0,none⟩),.string s] w fun e w'=>e=.returned (.tuple #[.int .i64 s.size,.nilIface])/\(Lib.BuilderAt 302 5 B b (.pointer (some ⟨b,0,none⟩)) (bs++Lib.strCells s) w'/\Below B w w'):=Any.Builder_WriteString Tryz.aqw Tryz.aj2 B b bs s w h hlen X6
end Go.Proofs
