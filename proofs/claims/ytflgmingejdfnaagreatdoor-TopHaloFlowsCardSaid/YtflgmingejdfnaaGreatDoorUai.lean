import Derived.Shelf.Small.Bits
import Derived.Shelf.Small.Wraps
import Derived.Shelf.Strconv.Atoi
import Derived.Shelf.LaysM
import Derived.Shelf.Strconv.Itoa3
import Derived.Shelf.Strings.Cut
import Derived.Shelf.Strings.Prefix
import Derived.Shelf.Bits.Mul64
import Derived.Shelf.Strings.Repeat
import Derived.Shelf.Strings.SlTrimAscii
import Derived.Shelf.Spec.BitsCarry
import Derived.Shelf.Strings.Builder1
import Derived.Test.YtflgmingejdfnaaGreatDoorProg
set_option linter.all false
set_option maxRecDepth 100000
open Go renaming Calls→xM,World→yh
open Go.Proofs.Lays renaming n101→ybF,n103→yby,n105→ybH,n129→ybA,n134→ybx,n145→ybD,n160→ybw,n166→ybI,n169→ybv,n172→ybz,n264→ybG,n283→ybB,n285→ybC,n99→ybE
open Go.Proofs.Lays7 renaming n25→ybl,n26→ybm
open Go.Proofs.LaysM renaming n145→ybk,n171→ybj,n284→ybi
open Go.Shelf renaming Ren→xx
namespace Go.Proofs
open Go.Shelf
def Tryz.ZP:xx:=⟨fun | 169=>235 | n=>n,fun | 70=>273 | 9=>9 | 0=>0 | 72=>276 | 37=>274 | 127=>308 | 3=>3 | 5=>5 | n=>n,fun | n=>n⟩
def Tryz.aqA:ybv Tryz.prog Tryz.ZP:=by
 repeat' first | kernel_rfl | (intro w;kernel_rfl) | decide | constructor
def Tryz.aj7:Builder.Extra Tryz.prog Tryz.ZP:=by
 repeat' first | kernel_rfl | (intro w;kernel_rfl) | decide | constructor
open Go.RowKit in
def Tryz.Builder_String_any (B b:Nat) (l:List UInt8) (w:yh) (h:Lib.IsBuilder 276 5 B b (Lib.byteCells l) w) (Xn:B<=w.heap.size):
  xM Tryz.prog 235 #[.pointer (some ⟨b,0,none⟩)] w fun e w'=>e= .returned (.string ⟨l.toArray⟩)/\Below B w w':=Any.Builder_String_any Tryz.aqA Tryz.aj7 B b l w h Xn
def Tryz.akC:xx:=⟨fun | 160=>261 | 232=>290 | 231=>289 | 227=>291 | 234=>293 | 233=>292 | 236=>295 | 235=>294 | 228=>316 | 271=>319 | 151=>318 | 197=>317 | 120=>332 | 152=>331 | 260=>330 | 137=>337 | 119=>338 | 224=>309 | 225=>308 | 217=>307 | 266=>325 | n=>n,fun | 9=>9 | 4=>4 | 3=>3 | 5=>5 | 117=>316 | 116=>315 | 0=>0 | 124=>319 | 21=>21 | 105=>339 | 46=>304 | 119=>360 | 139=>363 | 138=>362 | n=>n,fun | 3=>6 | 4=>7 | n=>n⟩
def Tryz.aqB:ybw Tryz.prog Tryz.akC:=by
 repeat' first | kernel_rfl | (intro w;kernel_rfl) | decide | constructor
def Tryz.akD:xx:=⟨fun | 134=>270 | 129=>296 | n=>n,fun | 53=>267 | 3=>3 | 4=>4 | 46=>304 | 5=>5 | 9=>9 | n=>n,fun | n=>n⟩
def Tryz.aqC:ybx Tryz.prog Tryz.akD:=by
 repeat' first | kernel_rfl | (intro w;kernel_rfl) | decide | constructor
def Tryz.bits_LeadingZeros64 (x:Int) (w:yh) (h0:0<=x) (h1:x<=18446744073709551615):
  xM Tryz.prog 270 #[.int .u64 x] w fun e w'=>e= .returned (.int .i64 (64-(Lib.bitLen x.toNat:Int)))/\w'=w:=Any.bits_LeadingZeros64 Tryz.aqC x w h0 h1
def Tryz.akE:xx:=⟨fun | 103=>217 | 210=>260 | 206=>284 | n=>n,fun | 9=>9 | 4=>4 | 24=>249 | 3=>3 | n=>n,fun | n=>n⟩
def Tryz.aqD:yby Tryz.prog Tryz.akE:=by
 repeat' first | kernel_rfl | (intro w;kernel_rfl) | decide | constructor
open Go.RowKit in
def Tryz.strings_CutPrefix (s p:ByteArray) (w:yh):
  xM Tryz.prog 217 #[.string s,.string p] w fun e w'=>e= .returned (.tuple #[.string ⟨(Lib.trimPrefix s.data.toList p.data.toList).toArray⟩,.bool (Lib.hasPrefix s.data.toList p.data.toList)])/\w'=w:=Any.strings_CutPrefix Tryz.aqD s p w
def Tryz.akF:xx:=⟨fun | 172=>254 | 244=>286 | 245=>287 | 247=>311 | 279=>312 | 280=>313 | 281=>314 | 282=>315 | 287=>327 | 316=>328 | 171=>229 | 205=>329 | 321=>335 | 322=>336 | 243=>267 | 246=>298 | 283=>299 | 284=>300 | 285=>301 | 286=>302 | 129=>296 | 317=>320 | 318=>321 | 319=>322 | 320=>323 | 337=>333 | 338=>334 | n=>n,fun | 9=>9 | 3=>3 | 75=>278 | 76=>279 | 4=>4 | 5=>5 | 167=>332 | 37=>274 | 0=>0 | 85=>333 | 2=>2 | 168=>335 | 53=>267 | 175=>348 | 46=>304 | 210=>352 | 127=>308 | 145=>359 | 143=>357 | 21=>21 | 171=>321 | 173=>323 | 212=>343 | 51=>325 | 20=>20 | 213=>344 | 232=>365 | 233=>366 | 80=>218 | n=>n,fun | 15=>4 | 16=>5 | 17=>3 | 18=>8 | 19=>9 | n=>n⟩
def Tryz.aqE:ybz Tryz.prog Tryz.akF:=by
 repeat' first | kernel_rfl | (intro w;kernel_rfl) | decide | constructor
open Go.RowKit in
def Tryz.strconv_Atoi (s:ByteArray) (n:Int) (hl:s.size<=18) (h:Lib.atoi s.data.toList=some n) (w:yh):
  xM Tryz.prog 254 #[.string s] w fun e w'=>e= .returned (.tuple #[.int .i64 n,.nilIface])/\∃t,w'=Lib.bytesWorld w 5 t:=Any.strconv_Atoi Tryz.aqE s n hl h w
def Tryz.akG:xx:=⟨fun | 129=>296 | n=>n,fun | 53=>267 | 3=>3 | 4=>4 | 46=>304 | 5=>5 | 9=>9 | n=>n,fun | n=>n⟩
def Tryz.aqF:ybA Tryz.prog Tryz.akG:=by
 repeat' first | kernel_rfl | (intro w;kernel_rfl) | decide | constructor
def Tryz.bits_Len64 (x:Int) (w:yh) (h0:0<=x) (h1:x<=18446744073709551615):
  xM Tryz.prog 296 #[.int .u64 x] w fun e w'=>e= .returned (.int .i64 (Lib.bitLen x.toNat))/\w'=w:=Any.bits_Len64 Tryz.aqF x w h0 h1
def Tryz.akH:xx:=⟨fun | 283=>299 | n=>n,fun | 3=>3 | 9=>9 | 4=>4 | n=>n,fun | n=>n⟩
def Tryz.aqG:ybB Tryz.prog Tryz.akH:=by
 repeat' first | kernel_rfl | (intro w;kernel_rfl) | decide | constructor
open Go.Lib in
def Tryz.internal_strconv_small (i:Nat) (h:i<100) (w:yh):
  xM Tryz.prog 299 #[.int .i64 i] w fun e w'=>e= .returned (.string ⟨(Lib.decDigits i).toArray⟩)/\w'=w:=Any.internal_strconv_small Tryz.aqG i h w
def Tryz.akq:xx:=⟨fun | 284=>300 | 129=>296 | 317=>320 | 318=>321 | n=>n,fun | 53=>267 | 3=>3 | 212=>343 | 0=>0 | 4=>4 | 46=>304 | 5=>5 | 9=>9 | n=>n,fun | 17=>3 | n=>n⟩
def Tryz.aot:ybi Tryz.prog Tryz.akq:=by
 repeat' first | kernel_rfl | (intro w;kernel_rfl) | decide | constructor
open Go.Lib in
def Tryz.internal_strconv_numDigits (u:Nat) (h1:1<=u) (h2:u<18446744073709551616) (w:yh) (Ei:Lib.TabIs Tryz.prog w "internal/strconv.uint64pow10" .u64 Lib.pow10Tab):
  xM Tryz.prog 300 #[.int .u64 u] w fun e w'=>e= .returned (.int .i64 (Lib.nDigits u))/\w'=w:=Any.internal_strconv_numDigits Tryz.aot u h1 h2 w Ei
def Tryz.akI:xx:=⟨fun | 285=>301 | n=>n,fun | 37=>274 | 53=>267 | 3=>3 | 4=>4 | 51=>325 | 9=>9 | 5=>5 | 0=>0 | n=>n,fun | n=>n⟩
def Tryz.aqH:ybC Tryz.prog Tryz.akI:=by
 repeat' first | kernel_rfl | (intro w;kernel_rfl) | decide | constructor
open Go.RowKit Go.Sort Go.Lib in
def Tryz.internal_strconv_formatBase10 (aP off cap:Nat) (u:Nat) (d:Array UInt8) (w:yh) (hH:Holds (fun (b:UInt8)=>Value.int .u8 (b.toNat:Int)) w aP off d) (hu:u<10^d.size) (Ej:u<18446744073709551616) (fk:d.size<4611686018427387904):
  xM Tryz.prog 301 #[.slice (some ⟨aP,off,none⟩) d.size cap,.int .u64 u] w fun e w'=>
   e= .returned (.tuple #[])/\∃(n v':Nat) (dk:Array UInt8),w'=(putRow (fun (b:UInt8)=>Value.int .u8 (b.toNat:Int)) w aP off dk).drewN n/\FmtInv d.size u 0 v' dk:=Any.internal_strconv_formatBase10 Tryz.aqH aP off cap u d w hH hu Ej fk
def Tryz.akr:xx:=⟨fun | 171=>229 | 243=>267 | 246=>298 | 283=>299 | 284=>300 | 285=>301 | 286=>302 | 129=>296 | 317=>320 | 318=>321 | 319=>322 | 320=>323 | 337=>333 | 338=>334 | n=>n,fun | 3=>3 | 9=>9 | 2=>2 | 4=>4 | 171=>321 | 0=>0 | 53=>267 | 37=>274 | 5=>5 | 173=>323 | 212=>343 | 51=>325 | 20=>20 | 213=>344 | 46=>304 | 232=>365 | 233=>366 | n=>n,fun | 17=>3 | 18=>8 | 19=>9 | n=>n⟩
def Tryz.aou:ybj Tryz.prog Tryz.akr:=by
 repeat' first | kernel_rfl | (intro w;kernel_rfl) | decide | constructor
open Go.RowKit Go.Sort Go.Lib in
def Tryz.strconv_Itoa (n:Int) (h0: -9223372036854775808<=n) (h1:n<=9223372036854775807) (w:yh) (Ei:Lib.TabIs Tryz.prog w "internal/strconv.uint64pow10" .u64 Lib.pow10Tab):
  xM Tryz.prog 229 #[.int .i64 n] w fun e w'=>e= .returned (.string ⟨(Lib.itoa n).toArray⟩)/\∃k os,w'=grow (w.drewN k) os:=Any.strconv_Itoa Tryz.aou n h0 h1 w Ei
def Tryz.akJ:xx:=⟨fun | 145=>208 | 220=>251 | 219=>283 | 217=>307 | 225=>308 | 224=>309 | 267=>310 | 266=>325 | 314=>326 | n=>n,fun | 9=>9 | 4=>4 | 59=>240 | 3=>3 | 5=>5 | 46=>304 | 146=>326 | 51=>325 | n=>n,fun | 1=>2 | n=>n⟩
def Tryz.aqI:ybD Tryz.prog Tryz.akJ:=by
 repeat' first | kernel_rfl | (intro w;kernel_rfl) | decide | constructor
open Go.RowKit Go.Lib in
def Tryz.strings_Cut (s sep:ByteArray) (m:Int) (w:yh) (hs:s.size<4294967281) (hm:w.cell? ⟨2,0,none⟩=some (.int .i64 m)):
  xM Tryz.prog 208 #[.string s,.string sep] w fun e w'=>e= .returned (.tuple #[.string ⟨(Lib.cut s.data.toList sep.data.toList).1.toArray⟩,.string ⟨(Lib.cut s.data.toList sep.data.toList).2.1.toArray⟩,.bool (Lib.cut s.data.toList sep.data.toList).2.2])/\∃n,w'=w.drewN n:=Any.strings_Cut Tryz.aqI s sep m w hs hm
def Tryz.aks:xx:=⟨fun | 145=>208 | 220=>251 | 219=>283 | 217=>307 | 225=>308 | 224=>309 | 267=>310 | 266=>325 | 314=>326 | n=>n,fun | 9=>9 | 4=>4 | 59=>240 | 3=>3 | 5=>5 | 46=>304 | 146=>326 | 51=>325 | n=>n,fun | 1=>2 | n=>n⟩
def Tryz.aov:ybk Tryz.prog Tryz.aks:=by
 repeat' first | kernel_rfl | (intro w;kernel_rfl) | exact fun w h=>Go.Proofs.cell_of_shapedOpen_int (zero:=#[.int .i64 0]) (t:=3) h (of_decide_eq_true (by kernel_rfl)) (by kernel_rfl) rfl (by kernel_rfl) (by kernel_rfl) Tryz.underlying3 | decide | constructor
def Tryz.ali:xx:=⟨fun | 99=>252 | 206=>284 | n=>n,fun | 9=>9 | 4=>4 | 3=>3 | n=>n,fun | n=>n⟩
def Tryz.asW:ybE Tryz.prog Tryz.ali:=by
 repeat' first | kernel_rfl | (intro w;kernel_rfl) | decide | constructor
open Go.RowKit Go.Lib in
def Tryz.strings_HasPrefix (s p:ByteArray) (w:yh):
  xM Tryz.prog 252 #[.string s,.string p] w fun e w'=>e= .returned (.bool (Lib.hasPrefix s.data.toList p.data.toList))/\w'=w:=Any.strings_HasPrefix Tryz.asW s p w
def Tryz.akK:xx:=⟨fun | 101=>253 | 208=>285 | 206=>284 | n=>n,fun | 9=>9 | 4=>4 | 3=>3 | n=>n,fun | n=>n⟩
def Tryz.aqJ:ybF Tryz.prog Tryz.akK:=by
 repeat' first | kernel_rfl | (intro w;kernel_rfl) | decide | constructor
open Go.RowKit Go.Lib in
def Tryz.strings_TrimPrefix (s p:ByteArray) (w:yh):
  xM Tryz.prog 253 #[.string s,.string p] w fun e w'=>e= .returned (.string ⟨(Lib.trimPrefix s.data.toList p.data.toList).toArray⟩)/\w'=w:=Any.strings_TrimPrefix Tryz.aqJ s p w
def Tryz.akL:xx:=⟨fun | 264=>239 | n=>n,fun | 53=>267 | 46=>304 | n=>n,fun | n=>n⟩
def Tryz.aqK:ybG Tryz.prog Tryz.akL:=by
 repeat' first | kernel_rfl | (intro w;kernel_rfl) | decide | constructor
open Go.RowKit Go.Lib in
def Tryz.bits_Mul64 (x y:Nat) (hx:x<18446744073709551616) (hy:y<18446744073709551616) (w:yh):
  xM Tryz.prog 239 #[.int .u64 x,.int .u64 y] w fun e w'=>e= .returned (.tuple #[.int .u64 ((x*y/18446744073709551616:Nat):Int),.int .u64 ((x*y%18446744073709551616:Nat):Int)])/\w'=w:=Any.bits_Mul64 Tryz.aqK x y hx hy w
def Tryz.ZQ:xx:=⟨fun | 105=>233 | 212=>274 | 99=>252 | 165=>275 | 166=>234 | 170=>276 | 169=>235 | 263=>303 | 264=>239 | 206=>284 | 240=>277 | 241=>304 | 276=>305 | 277=>324 | n=>n,fun | 9=>9 | 3=>3 | 4=>4 | 20=>20 | 0=>0 | 46=>304 | 109=>305 | 5=>5 | 72=>276 | 76=>279 | 51=>325 | 146=>326 | 53=>267 | 148=>282 | 70=>273 | 37=>274 | 75=>278 | 127=>308 | 164=>328 | 80=>218 | n=>n,fun | n=>n⟩
def Tryz.aqL:ybH Tryz.prog Tryz.ZQ:=by
 repeat' first | kernel_rfl | (intro w;kernel_rfl) | decide | constructor
def Tryz.aj8:Builder.Extra Tryz.prog Tryz.ZQ:=by
 repeat' first | kernel_rfl | (intro w;kernel_rfl) | decide | constructor
open Go.RowKit Go.Lib in
def Tryz.strings_Repeat (s:ByteArray) (c:Nat) (w:yh) (hc:c<=9223372036854775807) (hlen:s.size*c<=140737488355328):
  xM Tryz.prog 233 #[.string s,.int .i64 c] w fun e w'=>e= .returned (.string ⟨(Lib.repeatL s.data.toList c).toArray⟩)/\Below w.heap.size w w':=Any.strings_Repeat Tryz.aqL Tryz.aj8 s c w hc hlen
def Tryz.akt:xx:=⟨fun | 25=>278 | n=>n,fun | 22=>267 | n=>n,fun | n=>n⟩
def Tryz.aow:ybl Tryz.prog Tryz.akt:=by
 repeat' first | kernel_rfl | (intro w;kernel_rfl) | decide | constructor
def Tryz.aku:xx:=⟨fun | 26=>288 | n=>n,fun | 22=>267 | n=>n,fun | n=>n⟩
def Tryz.aox:ybm Tryz.prog Tryz.aku:=by
 repeat' first | kernel_rfl | (intro w;kernel_rfl) | decide | constructor
def Tryz.bits_Add64 (x y c:Nat) (hc:c<=1) (w:yh):
  (callFunc 278 #[.int .u64 x,.int .u64 y,.int .u64 c]).run Tryz.prog w=
   .ok (.value (.tuple #[.int .u64 (((x+y+c)%18446744073709551616:Nat):Int),.int .u64 (((x+y+c)/18446744073709551616:Nat):Int)])) w:=Any7.bits_Add64 Tryz.aow x y c hc w
def Tryz.bits_Sub64 (x y b:Nat) (hb:b<=1) (w:yh):
  (callFunc 288 #[.int .u64 x,.int .u64 y,.int .u64 b]).run Tryz.prog w=
   .ok (.value (.tuple #[.int .u64 (((x+18446744073709551616-y-b)%18446744073709551616:Nat):Int),.int .u64 ((if x<y+b then 1 else 0:Nat):Int)])) w:=Any7.bits_Sub64 Tryz.aox x y b hb w
open Go.RowKit in
def Tryz.akv (s JT:ByteArray) (w:yh) (hs:s.size<=9223372036854775807) (rR:JT.size<4294967281) (asX:∀(j:Nat) b,JT.data.toList[j]? =some b->b.toNat<128):
  xM Tryz.prog 261 #[.string s,.string JT] w fun e w'=>e= .returned (.string ⟨(Lib.trimS s.data.toList JT.data.toList).toArray⟩)/\Below w.heap.size w w':=
 Any.strings_Trim_laid Tryz.aqB (by kernel_rfl) s JT w hs rR asX
def Tryz.s1_3 (w:yh) (h:w.ShapedOpen Tryz.prog):∃m,w.cell? ⟨2,0,none⟩=some (.int .i64 m):=Tryz.aov.s1_3 w h
def Tryz.ZR:xx:=⟨fun | 166=>234 | 240=>277 | 276=>305 | n=>n,fun | 20=>20 | 37=>274 | 70=>273 | 72=>276 | 75=>278 | 80=>218 | 164=>328 | n=>n,fun | n=>n⟩
def Tryz.aqM:ybI Tryz.prog Tryz.ZR:=by
 repeat' first | kernel_rfl | (intro w;kernel_rfl) | decide | constructor
def Tryz.aj9:Builder.Extra Tryz.prog Tryz.ZR:=by
 repeat' first | kernel_rfl | (intro w;kernel_rfl) | decide | constructor
open Go.RowKit in
def Tryz.Builder_WriteString (B b:Nat) (bs:List Value) (s:ByteArray) (w:yh) (h:Lib.IsBuilder 276 5 B b bs w) (hlen:bs.length+s.size<=140737488355328) (Xn:B<=w.heap.size):
  xM Tryz.prog 234 #[.pointer (some ⟨b,0,none⟩),.string s] w fun e w'=>e= .returned (.tuple #[.int .i64 s.size,.nilIface])/\(Lib.BuilderAt 276 5 B b (.pointer (some ⟨b,0,none⟩)) (bs++Lib.strCells s) w'/\Below B w w'):=Any.Builder_WriteString Tryz.aqM Tryz.aj9 B b bs s w h hlen Xn
end Go.Proofs
