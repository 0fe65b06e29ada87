import Derived.Shelf.Small.Bits
import Derived.Shelf.Small.Wraps
import Derived.Shelf.Strconv.Atoi
import Derived.Shelf.LaysM
import Derived.Shelf.Strconv.Itoa3
import Derived.Shelf.Strings.Cut
import Derived.Shelf.Strings.Prefix
import Derived.Shelf.Bits.Mul64
import Derived.Shelf.Strings.Repeat
import Derived.Shelf.Strings.SlTrimAscii
import Derived.Shelf.Spec.BitsCarry
import Derived.Shelf.Strings.Builder1
import Derived.Test.YtebpicijmcnecaaGreatDoorProg
set_option linter.all false
set_option maxRecDepth 100000
open Go renaming Calls->wC,World->yk
open Go.Proofs.Lays renaming n101->ycE,n103->ycx,n105->ycG,n129->ycz,n134->ycw,n145->ycC,n160->ycv,n166->ycH,n169->ycu,n172->ycy,n264->ycF,n283->ycA,n285->ycB,n99->ycD
open Go.Proofs.Lays7 renaming n25->yci,n26->ycj
open Go.Proofs.LaysM renaming n145->ych,n171->ycg,n284->ycf
open Go.Shelf renaming Ren->wa
namespace Go.Proofs
open Go.Shelf
def Tryz.Zw:wa:=⟨fun | 169=>245 | n=>n,fun | 70=>300 | 9=>9 | 0=>0 | 72=>302 | 37=>45 | 127=>328 | 3=>3 | 5=>5 | n=>n,fun | n=>n⟩
def Tryz.aqr:ycu Tryz.prog Tryz.Zw:=by
 repeat' first | kernel_rfl | (intro w;kernel_rfl) | decide | constructor
def Tryz.aj8:Builder.Extra Tryz.prog Tryz.Zw:=by
 repeat' first | kernel_rfl | (intro w;kernel_rfl) | decide | constructor
open Go.RowKit in
def Tryz.Builder_String_any(B b:Nat)(l:List UInt8)(w:yk)(h:Lib.IsBuilder 302 5 B b (Lib.byteCells l) w)(XS:B<=w.heap.size):
  wC Tryz.prog 245 #[.pointer (some ⟨b,0,none⟩)] w fun e w'=>e=.returned (.string ⟨l.toArray⟩)/\Below B w w':=Any.Builder_String_any Tryz.aqr Tryz.aj8 B b l w h XS
def Tryz.akM:wa:=⟨fun | 160=>249 | 232=>289 | 231=>288 | 227=>290 | 234=>292 | 233=>291 | 236=>294 | 235=>293 | 228=>316 | 271=>319 | 151=>318 | 197=>317 | 120=>332 | 152=>331 | 260=>330 | 137=>337 | 119=>338 | 224=>297 | 225=>296 | 217=>295 | 266=>320 | n=>n,fun | 9=>9 | 4=>4 | 3=>3 | 5=>5 | 117=>337 | 116=>336 | 0=>0 | 124=>340 | 21=>21 | 105=>364 | 46=>309 | 119=>385 | 139=>388 | 138=>387 | n=>n,fun | 3=>10 | 4=>11 | n=>n⟩
def Tryz.aqs:ycv Tryz.prog Tryz.akM:=by
 repeat' first | kernel_rfl | (intro w;kernel_rfl) | decide | constructor
def Tryz.akN:wa:=⟨fun | 134=>273 | 129=>268 | n=>n,fun | 53=>260 | 3=>3 | 4=>4 | 46=>309 | 5=>5 | 9=>9 | n=>n,fun | n=>n⟩
def Tryz.aqt:ycw Tryz.prog Tryz.akN:=by
 repeat' first | kernel_rfl | (intro w;kernel_rfl) | decide | constructor
def Tryz.bits_LeadingZeros64(x:Int)(w:yk)(h0:0<=x)(h1:x<=18446744073709551615):
  wC Tryz.prog 273 #[.int .u64 x] w fun e w'=>e=.returned (.int .i64 (64-(Lib.bitLen x.toNat:Int)))/\w'=w:=Any.bits_LeadingZeros64 Tryz.aqt x w h0 h1
def Tryz.akO:wa:=⟨fun | 103=>180 | 210=>248 | 206=>252 | n=>n,fun | 9=>9 | 4=>4 | 24=>246 | 3=>3 | n=>n,fun | n=>n⟩
def Tryz.aqu:ycx Tryz.prog Tryz.akO:=by
 repeat' first | kernel_rfl | (intro w;kernel_rfl) | decide | constructor
open Go.RowKit in
def Tryz.strings_CutPrefix(s p:ByteArray)(w:yk):
  wC Tryz.prog 180 #[.string s,.string p] w fun e w'=>e=.returned (.tuple #[.string ⟨(Lib.trimPrefix s.data.toList p.data.toList).toArray⟩,.bool (Lib.hasPrefix s.data.toList p.data.toList)])/\w'=w:=Any.strings_CutPrefix Tryz.aqu s p w
def Tryz.akP:wa:=⟨fun | 172=>188 | 244=>254 | 245=>255 | 247=>299 | 279=>300 | 280=>301 | 281=>302 | 282=>303 | 287=>322 | 316=>323 | 171=>240 | 205=>324 | 321=>333 | 322=>334 | 243=>274 | 246=>307 | 283=>308 | 284=>309 | 285=>310 | 286=>311 | 129=>268 | 317=>325 | 318=>326 | 319=>327 | 320=>328 | 337=>335 | 338=>336 | n=>n,fun | 9=>9 | 3=>3 | 75=>252 | 76=>253 | 4=>4 | 5=>5 | 167=>343 | 37=>45 | 0=>0 | 85=>344 | 2=>2 | 168=>346 | 53=>260 | 175=>368 | 46=>309 | 210=>372 | 127=>328 | 145=>383 | 143=>381 | 21=>21 | 171=>354 | 173=>356 | 212=>322 | 51=>358 | 20=>20 | 213=>375 | 232=>390 | 233=>391 | 80=>231 | n=>n,fun | 15=>7 | 16=>8 | 17=>9 | 18=>12 | 19=>13 | n=>n⟩
def Tryz.aqv:ycy Tryz.prog Tryz.akP:=by
 repeat' first | kernel_rfl | (intro w;kernel_rfl) | decide | constructor
open Go.RowKit in
def Tryz.strconv_Atoi(s:ByteArray)(n:Int)(hl:s.size<=18)(h:Lib.atoi s.data.toList=some n)(w:yk):
  wC Tryz.prog 188 #[.string s] w fun e w'=>e=.returned (.tuple #[.int .i64 n,.nilIface])/\∃t,w'=Lib.bytesWorld w 5 t:=Any.strconv_Atoi Tryz.aqv s n hl h w
def Tryz.akQ:wa:=⟨fun | 129=>268 | n=>n,fun | 53=>260 | 3=>3 | 4=>4 | 46=>309 | 5=>5 | 9=>9 | n=>n,fun | n=>n⟩
def Tryz.aqw:ycz Tryz.prog Tryz.akQ:=by
 repeat' first | kernel_rfl | (intro w;kernel_rfl) | decide | constructor
def Tryz.bits_Len64(x:Int)(w:yk)(h0:0<=x)(h1:x<=18446744073709551615):
  wC Tryz.prog 268 #[.int .u64 x] w fun e w'=>e=.returned (.int .i64 (Lib.bitLen x.toNat))/\w'=w:=Any.bits_Len64 Tryz.aqw x w h0 h1
def Tryz.akR:wa:=⟨fun | 283=>308 | n=>n,fun | 3=>3 | 9=>9 | 4=>4 | n=>n,fun | n=>n⟩
def Tryz.aqx:ycA Tryz.prog Tryz.akR:=by
 repeat' first | kernel_rfl | (intro w;kernel_rfl) | decide | constructor
open Go.Lib in
def Tryz.internal_strconv_small(i:Nat)(h:i<100)(w:yk):
  wC Tryz.prog 308 #[.int .i64 i] w fun e w'=>e=.returned (.string ⟨(Lib.decDigits i).toArray⟩)/\w'=w:=Any.internal_strconv_small Tryz.aqx i h w
def Tryz.aku:wa:=⟨fun | 284=>309 | 129=>268 | 317=>325 | 318=>326 | n=>n,fun | 53=>260 | 3=>3 | 212=>322 | 0=>0 | 4=>4 | 46=>309 | 5=>5 | 9=>9 | n=>n,fun | 17=>9 | n=>n⟩
def Tryz.aor:ycf Tryz.prog Tryz.aku:=by
 repeat' first | kernel_rfl | (intro w;kernel_rfl) | decide | constructor
open Go.Lib in
def Tryz.internal_strconv_numDigits(u:Nat)(h1:1<=u)(h2:u<18446744073709551616)(w:yk)(E4:Lib.TabIs Tryz.prog w "internal/strconv.uint64pow10" .u64 Lib.pow10Tab):
  wC Tryz.prog 309 #[.int .u64 u] w fun e w'=>e=.returned (.int .i64 (Lib.nDigits u))/\w'=w:=Any.internal_strconv_numDigits Tryz.aor u h1 h2 w E4
def Tryz.akS:wa:=⟨fun | 285=>310 | n=>n,fun | 37=>45 | 53=>260 | 3=>3 | 4=>4 | 51=>358 | 9=>9 | 5=>5 | 0=>0 | n=>n,fun | n=>n⟩
def Tryz.aqy:ycB Tryz.prog Tryz.akS:=by
 repeat' first | kernel_rfl | (intro w;kernel_rfl) | decide | constructor
open Go.RowKit Go.Sort Go.Lib in
def Tryz.internal_strconv_formatBase10(dE off cap:Nat)(u:Nat)(d:Array UInt8)(w:yk)(hH:Holds (fun (b:UInt8)=>Value.int .u8 (b.toNat:Int)) w dE off d)(hu:u<10^d.size)(E5:u<18446744073709551616)(eJ:d.size<4611686018427387904):
  wC Tryz.prog 310 #[.slice (some ⟨dE,off,none⟩) d.size cap,.int .u64 u] w fun e w'=>
   e=.returned (.tuple #[])/\∃(n v':Nat) (dk:Array UInt8),w'=(putRow (fun (b:UInt8)=>Value.int .u8 (b.toNat:Int)) w dE off dk).drewN n/\FmtInv d.size u 0 v' dk:=Any.internal_strconv_formatBase10 Tryz.aqy dE off cap u d w hH hu E5 eJ
def Tryz.akv:wa:=⟨fun | 171=>240 | 243=>274 | 246=>307 | 283=>308 | 284=>309 | 285=>310 | 286=>311 | 129=>268 | 317=>325 | 318=>326 | 319=>327 | 320=>328 | 337=>335 | 338=>336 | n=>n,fun | 3=>3 | 9=>9 | 2=>2 | 4=>4 | 171=>354 | 0=>0 | 53=>260 | 37=>45 | 5=>5 | 173=>356 | 212=>322 | 51=>358 | 20=>20 | 213=>375 | 46=>309 | 232=>390 | 233=>391 | n=>n,fun | 17=>9 | 18=>12 | 19=>13 | n=>n⟩
def Tryz.aos:ycg Tryz.prog Tryz.akv:=by
 repeat' first | kernel_rfl | (intro w;kernel_rfl) | decide | constructor
open Go.RowKit Go.Sort Go.Lib in
def Tryz.strconv_Itoa(n:Int)(h0: -9223372036854775808<=n)(h1:n<=9223372036854775807)(w:yk)(E4:Lib.TabIs Tryz.prog w "internal/strconv.uint64pow10" .u64 Lib.pow10Tab):
  wC Tryz.prog 240 #[.int .i64 n] w fun e w'=>e=.returned (.string ⟨(Lib.itoa n).toArray⟩)/\∃k os,w'=grow (w.drewN k) os:=Any.strconv_Itoa Tryz.aos n h0 h1 w E4
def Tryz.akT:wa:=⟨fun | 145=>113 | 220=>185 | 219=>251 | 217=>295 | 225=>296 | 224=>297 | 267=>298 | 266=>320 | 314=>321 | n=>n,fun | 9=>9 | 4=>4 | 59=>184 | 3=>3 | 5=>5 | 46=>309 | 146=>359 | 51=>358 | n=>n,fun | 1=>4 | n=>n⟩
def Tryz.aqz:ycC Tryz.prog Tryz.akT:=by
 repeat' first | kernel_rfl | (intro w;kernel_rfl) | decide | constructor
open Go.RowKit Go.Lib in
def Tryz.strings_Cut(s sep:ByteArray)(m:Int)(w:yk)(hs:s.size<4294967281)(hm:w.cell? ⟨4,0,none⟩=some (.int .i64 m)):
  wC Tryz.prog 113 #[.string s,.string sep] w fun e w'=>e=.returned (.tuple #[.string ⟨(Lib.cut s.data.toList sep.data.toList).1.toArray⟩,.string ⟨(Lib.cut s.data.toList sep.data.toList).2.1.toArray⟩,.bool (Lib.cut s.data.toList sep.data.toList).2.2])/\∃n,w'=w.drewN n:=Any.strings_Cut Tryz.aqz s sep m w hs hm
def Tryz.akw:wa:=⟨fun | 145=>113 | 220=>185 | 219=>251 | 217=>295 | 225=>296 | 224=>297 | 267=>298 | 266=>320 | 314=>321 | n=>n,fun | 9=>9 | 4=>4 | 59=>184 | 3=>3 | 5=>5 | 46=>309 | 146=>359 | 51=>358 | n=>n,fun | 1=>4 | n=>n⟩
def Tryz.aot:ych Tryz.prog Tryz.akw:=by
 repeat' first | kernel_rfl | (intro w;kernel_rfl) | exact fun w h=>Go.Proofs.cell_of_shapedOpen_int (zero:=#[.int .i64 0]) (t:=3) h (of_decide_eq_true (by kernel_rfl)) (by kernel_rfl) rfl (by kernel_rfl) (by kernel_rfl) Tryz.underlying3 | decide | constructor
def Tryz.alt:wa:=⟨fun | 99=>186 | 206=>252 | n=>n,fun | 9=>9 | 4=>4 | 3=>3 | n=>n,fun | n=>n⟩
def Tryz.atf:ycD Tryz.prog Tryz.alt:=by
 repeat' first | kernel_rfl | (intro w;kernel_rfl) | decide | constructor
open Go.RowKit Go.Lib in
def Tryz.strings_HasPrefix(s p:ByteArray)(w:yk):
  wC Tryz.prog 186 #[.string s,.string p] w fun e w'=>e=.returned (.bool (Lib.hasPrefix s.data.toList p.data.toList))/\w'=w:=Any.strings_HasPrefix Tryz.atf s p w
def Tryz.akU:wa:=⟨fun | 101=>187 | 208=>253 | 206=>252 | n=>n,fun | 9=>9 | 4=>4 | 3=>3 | n=>n,fun | n=>n⟩
def Tryz.aqA:ycE Tryz.prog Tryz.akU:=by
 repeat' first | kernel_rfl | (intro w;kernel_rfl) | decide | constructor
open Go.RowKit Go.Lib in
def Tryz.strings_TrimPrefix(s p:ByteArray)(w:yk):
  wC Tryz.prog 187 #[.string s,.string p] w fun e w'=>e=.returned (.string ⟨(Lib.trimPrefix s.data.toList p.data.toList).toArray⟩)/\w'=w:=Any.strings_TrimPrefix Tryz.aqA s p w
def Tryz.akV:wa:=⟨fun | 264=>198 | n=>n,fun | 53=>260 | 46=>309 | n=>n,fun | n=>n⟩
def Tryz.aqB:ycF Tryz.prog Tryz.akV:=by
 repeat' first | kernel_rfl | (intro w;kernel_rfl) | decide | constructor
open Go.RowKit Go.Lib in
def Tryz.bits_Mul64(x y:Nat)(hx:x<18446744073709551616)(hy:y<18446744073709551616)(w:yk):
  wC Tryz.prog 198 #[.int .u64 x,.int .u64 y] w fun e w'=>e=.returned (.tuple #[.int .u64 ((x*y/18446744073709551616:Nat):Int),.int .u64 ((x*y%18446744073709551616:Nat):Int)])/\w'=w:=Any.bits_Mul64 Tryz.aqB x y hx hy w
def Tryz.Zx:wa:=⟨fun | 105=>243 | 212=>279 | 99=>186 | 165=>280 | 166=>244 | 170=>281 | 169=>245 | 263=>312 | 264=>198 | 206=>252 | 240=>282 | 241=>313 | 276=>314 | 277=>329 | n=>n,fun | 9=>9 | 3=>3 | 4=>4 | 20=>20 | 0=>0 | 46=>309 | 109=>325 | 5=>5 | 72=>302 | 76=>253 | 51=>358 | 146=>359 | 53=>260 | 148=>261 | 70=>300 | 37=>45 | 75=>252 | 127=>328 | 164=>361 | 80=>231 | n=>n,fun | n=>n⟩
def Tryz.aqC:ycG Tryz.prog Tryz.Zx:=by
 repeat' first | kernel_rfl | (intro w;kernel_rfl) | decide | constructor
def Tryz.aj9:Builder.Extra Tryz.prog Tryz.Zx:=by
 repeat' first | kernel_rfl | (intro w;kernel_rfl) | decide | constructor
open Go.RowKit Go.Lib in
def Tryz.strings_Repeat(s:ByteArray)(c:Nat)(w:yk)(hc:c<=9223372036854775807)(hlen:s.size*c<=140737488355328):
  wC Tryz.prog 243 #[.string s,.int .i64 c] w fun e w'=>e=.returned (.string ⟨(Lib.repeatL s.data.toList c).toArray⟩)/\Below w.heap.size w w':=Any.strings_Repeat Tryz.aqC Tryz.aj9 s c w hc hlen
def Tryz.akx:wa:=⟨fun | 25=>257 | n=>n,fun | 22=>260 | n=>n,fun | n=>n⟩
def Tryz.aou:yci Tryz.prog Tryz.akx:=by
 repeat' first | kernel_rfl | (intro w;kernel_rfl) | decide | constructor
def Tryz.aky:wa:=⟨fun | 26=>259 | n=>n,fun | 22=>260 | n=>n,fun | n=>n⟩
def Tryz.aov:ycj Tryz.prog Tryz.aky:=by
 repeat' first | kernel_rfl | (intro w;kernel_rfl) | decide | constructor
def Tryz.bits_Add64(x y c:Nat)(hc:c<=1)(w:yk):
  (callFunc 257 #[.int .u64 x,.int .u64 y,.int .u64 c]).run Tryz.prog w=
   .ok (.value (.tuple #[.int .u64 (((x+y+c)%18446744073709551616:Nat):Int),.int .u64 (((x+y+c)/18446744073709551616:Nat):Int)])) w:=Any7.bits_Add64 Tryz.aou x y c hc w
def Tryz.bits_Sub64(x y b:Nat)(hb:b<=1)(w:yk):
  (callFunc 259 #[.int .u64 x,.int .u64 y,.int .u64 b]).run Tryz.prog w=
   .ok (.value (.tuple #[.int .u64 (((x+18446744073709551616-y-b)%18446744073709551616:Nat):Int),.int .u64 ((if x<y+b then 1 else 0:Nat):Int)])) w:=Any7.bits_Sub64 Tryz.aov x y b hb w
open Go.RowKit in
def Tryz.akz(s Ki:ByteArray)(w:yk)(hs:s.size<=9223372036854775807)(Dq:Ki.size<4294967281)(atg:∀(j:Nat) b,Ki.data.toList[j]? =some b->b.toNat<128):
  wC Tryz.prog 249 #[.string s,.string Ki] w fun e w'=>e=.returned (.string ⟨(Lib.trimS s.data.toList Ki.data.toList).toArray⟩)/\Below w.heap.size w w':=
 Any.strings_Trim_laid Tryz.aqs (by kernel_rfl) s Ki w hs Dq atg
def Tryz.s1_3(w:yk)(h:w.ShapedOpen Tryz.prog):∃m,w.cell? ⟨4,0,none⟩=some (.int .i64 m):=Tryz.aot.s1_3 w h
def Tryz.Zy:wa:=⟨fun | 166=>244 | 240=>282 | 276=>314 | n=>n,fun | 20=>20 | 37=>45 | 70=>300 | 72=>302 | 75=>252 | 80=>231 | 164=>361 | n=>n,fun | n=>n⟩
def Tryz.aqD:ycH Tryz.prog Tryz.Zy:=by
 repeat' first | kernel_rfl | (intro w;kernel_rfl) | decide | constructor
def Tryz.aka:Builder.Extra Tryz.prog Tryz.Zy:=by
 repeat' first | kernel_rfl | (intro w;kernel_rfl) | decide | constructor
open Go.RowKit in
def Tryz.Builder_WriteString(B b:Nat)(bs:List Value)(s:ByteArray)(w:yk)(h:Lib.IsBuilder 302 5 B b bs w)(hlen:bs.length+s.size<=140737488355328)(XS:B<=w.heap.size):
  wC Tryz.prog 244 #[.pointer (some ⟨b,0,none⟩),.string s] w fun e w'=>e=.returned (.tuple #[.int .i64 s.size,.nilIface])/\(Lib.BuilderAt 302 5 B b (.pointer (some ⟨b,0,none⟩)) (bs++Lib.strCells s) w'/\Below B w w'):=Any.Builder_WriteString Tryz.aqD Tryz.aka B b bs s w h hlen XS
end Go.Proofs
