import Derived.Shelf.Small.Bits
import Derived.Shelf.Small.Wraps
import Derived.Shelf.Strconv.Atoi
import Derived.Shelf.LaysM
import Derived.Shelf.Strconv.Itoa3
import Derived.Shelf.Strings.Cut
import Derived.Shelf.Strings.Prefix
import Derived.Shelf.Bits.Mul64
import Derived.Shelf.Strings.Repeat
import Derived.Shelf.Strings.SlTrimAscii
import Derived.Shelf.Spec.BitsCarry
import Derived.Shelf.Strings.Builder1
import Derived.Test.YtcifahflapielaaGreatDoorProg
set_option linter.all false
set_option maxRecDepth 100000
open Go renaming Calls->wE,World->ym
open Go.Proofs.Lays renaming n101->ycg,n103->ybZ,n105->yci,n129->ycb,n134->ybY,n145->yce,n160->ybX,n166->ycj,n169->ybW,n172->yca,n264->ych,n283->ycc,n285->ycd,n99->ycf
open Go.Proofs.Lays7 renaming n25->ybM,n26->ybN
open Go.Proofs.LaysM renaming n145->ybL,n171->ybK,n284->ybJ
open Go.Shelf renaming Ren->wb
namespace Go.Proofs
open Go.Shelf
def Tryz.aaN:wb:=⟨fun | 169=>218 | n=>n,fun | 70=>285 | 9=>9 | 0=>0 | 72=>288 | 37=>286 | 127=>337 | 3=>3 | 5=>5 | n=>n,fun | n=>n⟩
def Tryz.aqo:ybW Tryz.prog Tryz.aaN:=by
 repeat' first | kernel_rfl | (intro w;kernel_rfl) | decide | constructor
def Tryz.aka:Builder.Extra Tryz.prog Tryz.aaN:=by
 repeat' first | kernel_rfl | (intro w;kernel_rfl) | decide | constructor
open Go.RowKit in
def Tryz.Builder_String_any(B b:Nat)(l:List UInt8)(w:ym)(h:Lib.IsBuilder 288 5 B b (Lib.byteCells l) w)(YR:B<=w.heap.size):
  wE Tryz.prog 218 #[.pointer (some ⟨b,0,none⟩)] w fun e w'=>e=.returned (.string ⟨l.toArray⟩)/\Below B w w':=Any.Builder_String_any Tryz.aqo Tryz.aka B b l w h YR
def Tryz.akK:wb:=⟨fun | 160=>283 | 232=>314 | 231=>313 | 227=>315 | 234=>317 | 233=>316 | 236=>319 | 235=>318 | 228=>338 | 271=>341 | 151=>340 | 197=>339 | 120=>351 | 152=>350 | 260=>349 | 137=>354 | 119=>355 | 224=>322 | 225=>321 | 217=>320 | 266=>342 | n=>n,fun | 9=>9 | 4=>4 | 3=>3 | 5=>5 | 117=>362 | 116=>361 | 0=>0 | 124=>365 | 21=>21 | 105=>384 | 46=>328 | 119=>402 | 139=>405 | 138=>404 | n=>n,fun | 3=>12 | 4=>13 | n=>n⟩
def Tryz.aqp:ybX Tryz.prog Tryz.akK:=by
 repeat' first | kernel_rfl | (intro w;kernel_rfl) | decide | constructor
def Tryz.akL:wb:=⟨fun | 134=>274 | 129=>293 | n=>n,fun | 53=>270 | 3=>3 | 4=>4 | 46=>328 | 5=>5 | 9=>9 | n=>n,fun | n=>n⟩
def Tryz.aqq:ybY Tryz.prog Tryz.akL:=by
 repeat' first | kernel_rfl | (intro w;kernel_rfl) | decide | constructor
def Tryz.bits_LeadingZeros64(x:Int)(w:ym)(h0:0<=x)(h1:x<=18446744073709551615):
  wE Tryz.prog 274 #[.int .u64 x] w fun e w'=>e=.returned (.int .i64 (64-(Lib.bitLen x.toNat:Int)))/\w'=w:=Any.bits_LeadingZeros64 Tryz.aqq x w h0 h1
def Tryz.akM:wb:=⟨fun | 103=>219 | 210=>282 | 206=>285 | n=>n,fun | 9=>9 | 4=>4 | 24=>293 | 3=>3 | n=>n,fun | n=>n⟩
def Tryz.aqr:ybZ Tryz.prog Tryz.akM:=by
 repeat' first | kernel_rfl | (intro w;kernel_rfl) | decide | constructor
open Go.RowKit in
def Tryz.strings_CutPrefix(s p:ByteArray)(w:ym):
  wE Tryz.prog 219 #[.string s,.string p] w fun e w'=>e=.returned (.tuple #[.string ⟨(Lib.trimPrefix s.data.toList p.data.toList).toArray⟩,.bool (Lib.hasPrefix s.data.toList p.data.toList)])/\w'=w:=Any.strings_CutPrefix Tryz.aqr s p w
def Tryz.akN:wb:=⟨fun | 172=>226 | 244=>287 | 245=>288 | 247=>324 | 279=>325 | 280=>326 | 281=>327 | 282=>328 | 287=>344 | 316=>345 | 171=>213 | 205=>346 | 321=>352 | 322=>353 | 243=>272 | 246=>305 | 283=>306 | 284=>307 | 285=>308 | 286=>309 | 129=>293 | 317=>333 | 318=>334 | 319=>335 | 320=>336 | 337=>347 | 338=>348 | n=>n,fun | 9=>9 | 3=>3 | 75=>290 | 76=>291 | 4=>4 | 5=>5 | 167=>368 | 37=>286 | 0=>0 | 85=>369 | 2=>2 | 168=>371 | 53=>270 | 175=>388 | 46=>328 | 210=>392 | 127=>337 | 145=>399 | 143=>397 | 21=>21 | 171=>350 | 173=>352 | 212=>343 | 51=>354 | 20=>20 | 213=>379 | 232=>400 | 233=>401 | 80=>210 | n=>n,fun | 15=>8 | 16=>9 | 17=>7 | 18=>10 | 19=>11 | n=>n⟩
def Tryz.aqs:yca Tryz.prog Tryz.akN:=by
 repeat' first | kernel_rfl | (intro w;kernel_rfl) | decide | constructor
open Go.RowKit in
def Tryz.strconv_Atoi(s:ByteArray)(n:Int)(hl:s.size<=18)(h:Lib.atoi s.data.toList=some n)(w:ym):
  wE Tryz.prog 226 #[.string s] w fun e w'=>e=.returned (.tuple #[.int .i64 n,.nilIface])/\∃t,w'=Lib.bytesWorld w 5 t:=Any.strconv_Atoi Tryz.aqs s n hl h w
def Tryz.akO:wb:=⟨fun | 129=>293 | n=>n,fun | 53=>270 | 3=>3 | 4=>4 | 46=>328 | 5=>5 | 9=>9 | n=>n,fun | n=>n⟩
def Tryz.aqt:ycb Tryz.prog Tryz.akO:=by
 repeat' first | kernel_rfl | (intro w;kernel_rfl) | decide | constructor
def Tryz.bits_Len64(x:Int)(w:ym)(h0:0<=x)(h1:x<=18446744073709551615):
  wE Tryz.prog 293 #[.int .u64 x] w fun e w'=>e=.returned (.int .i64 (Lib.bitLen x.toNat))/\w'=w:=Any.bits_Len64 Tryz.aqt x w h0 h1
def Tryz.akP:wb:=⟨fun | 283=>306 | n=>n,fun | 3=>3 | 9=>9 | 4=>4 | n=>n,fun | n=>n⟩
def Tryz.aqu:ycc Tryz.prog Tryz.akP:=by
 repeat' first | kernel_rfl | (intro w;kernel_rfl) | decide | constructor
open Go.Lib in
def Tryz.internal_strconv_small(i:Nat)(h:i<100)(w:ym):
  wE Tryz.prog 306 #[.int .i64 i] w fun e w'=>e=.returned (.string ⟨(Lib.decDigits i).toArray⟩)/\w'=w:=Any.internal_strconv_small Tryz.aqu i h w
def Tryz.akt:wb:=⟨fun | 284=>307 | 129=>293 | 317=>333 | 318=>334 | n=>n,fun | 53=>270 | 3=>3 | 212=>343 | 0=>0 | 4=>4 | 46=>328 | 5=>5 | 9=>9 | n=>n,fun | 17=>7 | n=>n⟩
def Tryz.aox:ybJ Tryz.prog Tryz.akt:=by
 repeat' first | kernel_rfl | (intro w;kernel_rfl) | decide | constructor
open Go.Lib in
def Tryz.internal_strconv_numDigits(u:Nat)(h1:1<=u)(h2:u<18446744073709551616)(w:ym)(FM:Lib.TabIs Tryz.prog w "internal/strconv.uint64pow10" .u64 Lib.pow10Tab):
  wE Tryz.prog 307 #[.int .u64 u] w fun e w'=>e=.returned (.int .i64 (Lib.nDigits u))/\w'=w:=Any.internal_strconv_numDigits Tryz.aox u h1 h2 w FM
def Tryz.akQ:wb:=⟨fun | 285=>308 | n=>n,fun | 37=>286 | 53=>270 | 3=>3 | 4=>4 | 51=>354 | 9=>9 | 5=>5 | 0=>0 | n=>n,fun | n=>n⟩
def Tryz.aqv:ycd Tryz.prog Tryz.akQ:=by
 repeat' first | kernel_rfl | (intro w;kernel_rfl) | decide | constructor
open Go.RowKit Go.Sort Go.Lib in
def Tryz.internal_strconv_formatBase10(ef off cap:Nat)(u:Nat)(d:Array UInt8)(w:ym)(hH:Holds (fun (b:UInt8)=>Value.int .u8 (b.toNat:Int)) w ef off d)(hu:u<10^d.size)(FN:u<18446744073709551616)(eS:d.size<4611686018427387904):
  wE Tryz.prog 308 #[.slice (some ⟨ef,off,none⟩) d.size cap,.int .u64 u] w fun e w'=>
   e=.returned (.tuple #[])/\∃(n v':Nat) (dk:Array UInt8),w'=(putRow (fun (b:UInt8)=>Value.int .u8 (b.toNat:Int)) w ef off dk).drewN n/\FmtInv d.size u 0 v' dk:=Any.internal_strconv_formatBase10 Tryz.aqv ef off cap u d w hH hu FN eS
def Tryz.aku:wb:=⟨fun | 171=>213 | 243=>272 | 246=>305 | 283=>306 | 284=>307 | 285=>308 | 286=>309 | 129=>293 | 317=>333 | 318=>334 | 319=>335 | 320=>336 | 337=>347 | 338=>348 | n=>n,fun | 3=>3 | 9=>9 | 2=>2 | 4=>4 | 171=>350 | 0=>0 | 53=>270 | 37=>286 | 5=>5 | 173=>352 | 212=>343 | 51=>354 | 20=>20 | 213=>379 | 46=>328 | 232=>400 | 233=>401 | n=>n,fun | 17=>7 | 18=>10 | 19=>11 | n=>n⟩
def Tryz.aoy:ybK Tryz.prog Tryz.aku:=by
 repeat' first | kernel_rfl | (intro w;kernel_rfl) | decide | constructor
open Go.RowKit Go.Sort Go.Lib in
def Tryz.strconv_Itoa(n:Int)(h0: -9223372036854775808<=n)(h1:n<=9223372036854775807)(w:ym)(FM:Lib.TabIs Tryz.prog w "internal/strconv.uint64pow10" .u64 Lib.pow10Tab):
  wE Tryz.prog 213 #[.int .i64 n] w fun e w'=>e=.returned (.string ⟨(Lib.itoa n).toArray⟩)/\∃k os,w'=grow (w.drewN k) os:=Any.strconv_Itoa Tryz.aoy n h0 h1 w FM
def Tryz.akR:wb:=⟨fun | 145=>147 | 220=>223 | 219=>284 | 217=>320 | 225=>321 | 224=>322 | 267=>323 | 266=>342 | 314=>343 | n=>n,fun | 9=>9 | 4=>4 | 59=>216 | 3=>3 | 5=>5 | 46=>328 | 146=>355 | 51=>354 | n=>n,fun | 1=>6 | n=>n⟩
def Tryz.aqw:yce Tryz.prog Tryz.akR:=by
 repeat' first | kernel_rfl | (intro w;kernel_rfl) | decide | constructor
open Go.RowKit Go.Lib in
def Tryz.strings_Cut(s sep:ByteArray)(m:Int)(w:ym)(hs:s.size<4294967281)(hm:w.cell? ⟨6,0,none⟩=some (.int .i64 m)):
  wE Tryz.prog 147 #[.string s,.string sep] w fun e w'=>e=.returned (.tuple #[.string ⟨(Lib.cut s.data.toList sep.data.toList).1.toArray⟩,.string ⟨(Lib.cut s.data.toList sep.data.toList).2.1.toArray⟩,.bool (Lib.cut s.data.toList sep.data.toList).2.2])/\∃n,w'=w.drewN n:=Any.strings_Cut Tryz.aqw s sep m w hs hm
def Tryz.akv:wb:=⟨fun | 145=>147 | 220=>223 | 219=>284 | 217=>320 | 225=>321 | 224=>322 | 267=>323 | 266=>342 | 314=>343 | n=>n,fun | 9=>9 | 4=>4 | 59=>216 | 3=>3 | 5=>5 | 46=>328 | 146=>355 | 51=>354 | n=>n,fun | 1=>6 | n=>n⟩
def Tryz.aoz:ybL Tryz.prog Tryz.akv:=by
 repeat' first | kernel_rfl | (intro w;kernel_rfl) | exact fun w h=>Go.Proofs.cell_of_shapedOpen_int (zero:=#[.int .i64 0]) (t:=3) h (of_decide_eq_true (by kernel_rfl)) (by kernel_rfl) rfl (by kernel_rfl) (by kernel_rfl) Tryz.underlying3 | decide | constructor
def Tryz.alt:wb:=⟨fun | 99=>224 | 206=>285 | n=>n,fun | 9=>9 | 4=>4 | 3=>3 | n=>n,fun | n=>n⟩
def Tryz.asN:ycf Tryz.prog Tryz.alt:=by
 repeat' first | kernel_rfl | (intro w;kernel_rfl) | decide | constructor
open Go.RowKit Go.Lib in
def Tryz.strings_HasPrefix(s p:ByteArray)(w:ym):
  wE Tryz.prog 224 #[.string s,.string p] w fun e w'=>e=.returned (.bool (Lib.hasPrefix s.data.toList p.data.toList))/\w'=w:=Any.strings_HasPrefix Tryz.asN s p w
def Tryz.akS:wb:=⟨fun | 101=>225 | 208=>286 | 206=>285 | n=>n,fun | 9=>9 | 4=>4 | 3=>3 | n=>n,fun | n=>n⟩
def Tryz.aqx:ycg Tryz.prog Tryz.akS:=by
 repeat' first | kernel_rfl | (intro w;kernel_rfl) | decide | constructor
open Go.RowKit Go.Lib in
def Tryz.strings_TrimPrefix(s p:ByteArray)(w:ym):
  wE Tryz.prog 225 #[.string s,.string p] w fun e w'=>e=.returned (.string ⟨(Lib.trimPrefix s.data.toList p.data.toList).toArray⟩)/\w'=w:=Any.strings_TrimPrefix Tryz.aqx s p w
def Tryz.akT:wb:=⟨fun | 264=>205 | n=>n,fun | 53=>270 | 46=>328 | n=>n,fun | n=>n⟩
def Tryz.aqy:ych Tryz.prog Tryz.akT:=by
 repeat' first | kernel_rfl | (intro w;kernel_rfl) | decide | constructor
open Go.RowKit Go.Lib in
def Tryz.bits_Mul64(x y:Nat)(hx:x<18446744073709551616)(hy:y<18446744073709551616)(w:ym):
  wE Tryz.prog 205 #[.int .u64 x,.int .u64 y] w fun e w'=>e=.returned (.tuple #[.int .u64 ((x*y/18446744073709551616:Nat):Int),.int .u64 ((x*y%18446744073709551616:Nat):Int)])/\w'=w:=Any.bits_Mul64 Tryz.aqy x y hx hy w
def Tryz.aaO:wb:=⟨fun | 105=>216 | 212=>278 | 99=>224 | 165=>279 | 166=>217 | 170=>280 | 169=>218 | 263=>310 | 264=>205 | 206=>285 | 240=>281 | 241=>311 | 276=>312 | 277=>337 | n=>n,fun | 9=>9 | 3=>3 | 4=>4 | 20=>20 | 0=>0 | 46=>328 | 109=>334 | 5=>5 | 72=>288 | 76=>291 | 51=>354 | 146=>355 | 53=>270 | 148=>271 | 70=>285 | 37=>286 | 75=>290 | 127=>337 | 164=>357 | 80=>210 | n=>n,fun | n=>n⟩
def Tryz.aqz:yci Tryz.prog Tryz.aaO:=by
 repeat' first | kernel_rfl | (intro w;kernel_rfl) | decide | constructor
def Tryz.akb:Builder.Extra Tryz.prog Tryz.aaO:=by
 repeat' first | kernel_rfl | (intro w;kernel_rfl) | decide | constructor
open Go.RowKit Go.Lib in
def Tryz.strings_Repeat(s:ByteArray)(c:Nat)(w:ym)(hc:c<=9223372036854775807)(hlen:s.size*c<=140737488355328):
  wE Tryz.prog 216 #[.string s,.int .i64 c] w fun e w'=>e=.returned (.string ⟨(Lib.repeatL s.data.toList c).toArray⟩)/\Below w.heap.size w w':=Any.strings_Repeat Tryz.aqz Tryz.akb s c w hc hlen
def Tryz.akw:wb:=⟨fun | 25=>269 | n=>n,fun | 22=>270 | n=>n,fun | n=>n⟩
def Tryz.aoA:ybM Tryz.prog Tryz.akw:=by
 repeat' first | kernel_rfl | (intro w;kernel_rfl) | decide | constructor
def Tryz.akx:wb:=⟨fun | 26=>271 | n=>n,fun | 22=>270 | n=>n,fun | n=>n⟩
def Tryz.aoB:ybN Tryz.prog Tryz.akx:=by
 repeat' first | kernel_rfl | (intro w;kernel_rfl) | decide | constructor
def Tryz.bits_Add64(x y c:Nat)(hc:c<=1)(w:ym):
  (callFunc 269 #[.int .u64 x,.int .u64 y,.int .u64 c]).run Tryz.prog w=
   .ok (.value (.tuple #[.int .u64 (((x+y+c)%18446744073709551616:Nat):Int),.int .u64 (((x+y+c)/18446744073709551616:Nat):Int)])) w:=Any7.bits_Add64 Tryz.aoA x y c hc w
def Tryz.bits_Sub64(x y b:Nat)(hb:b<=1)(w:ym):
  (callFunc 271 #[.int .u64 x,.int .u64 y,.int .u64 b]).run Tryz.prog w=
   .ok (.value (.tuple #[.int .u64 (((x+18446744073709551616-y-b)%18446744073709551616:Nat):Int),.int .u64 ((if x<y+b then 1 else 0:Nat):Int)])) w:=Any7.bits_Sub64 Tryz.aoB x y b hb w
open Go.RowKit in
def Tryz.aky(s Lh:ByteArray)(w:ym)(hs:s.size<=9223372036854775807)(eI:Lh.size<4294967281)(asP:∀(j:Nat) b,Lh.data.toList[j]? =some b->b.toNat<128):
  wE Tryz.prog 283 #[.string s,.string Lh] w fun e w'=>e=.returned (.string ⟨(Lib.trimS s.data.toList Lh.data.toList).toArray⟩)/\Below w.heap.size w w':=
 Any.strings_Trim_laid Tryz.aqp (by kernel_rfl) s Lh w hs eI asP
def Tryz.s1_3(w:ym)(h:w.ShapedOpen Tryz.prog):∃m,w.cell? ⟨6,0,none⟩=some (.int .i64 m):=Tryz.aoz.s1_3 w h
def Tryz.aaP:wb:=⟨fun | 166=>217 | 240=>281 | 276=>312 | n=>n,fun | 20=>20 | 37=>286 | 70=>285 | 72=>288 | 75=>290 | 80=>210 | 164=>357 | n=>n,fun | n=>n⟩
def Tryz.aqA:ycj Tryz.prog Tryz.aaP:=by
 repeat' first | kernel_rfl | (intro w;kernel_rfl) | decide | constructor
def Tryz.akc:Builder.Extra Tryz.prog Tryz.aaP:=by
 repeat' first | kernel_rfl | (intro w;kernel_rfl) | decide | constructor
open Go.RowKit in
def Tryz.Builder_WriteString(B b:Nat)(bs:List Value)(s:ByteArray)(w:ym)(h:Lib.IsBuilder 288 5 B b bs w)(hlen:bs.length+s.size<=140737488355328)(YR:B<=w.heap.size):
  wE Tryz.prog 217 #[.pointer (some ⟨b,0,none⟩),.string s] w fun e w'=>e=.returned (.tuple #[.int .i64 s.size,.nilIface])/\(Lib.BuilderAt 288 5 B b (.pointer (some ⟨b,0,none⟩)) (bs++Lib.strCells s) w'/\Below B w w'):=Any.Builder_WriteString Tryz.aqA Tryz.akc B b bs s w h hlen YR
end Go.Proofs
