import Derived.Shelf.Small.Bits
import Derived.Shelf.Small.Wraps
import Derived.Shelf.Strconv.Atoi
import Derived.Shelf.LaysM
import Derived.Shelf.Strconv.Itoa3
import Derived.Shelf.Strings.Cut
import Derived.Shelf.Strings.Prefix
import Derived.Shelf.Bits.Mul64
import Derived.Shelf.Strings.Repeat
import Derived.Shelf.Strings.SlTrimAscii
import Derived.Shelf.Spec.BitsCarry
import Derived.Shelf.Strings.Builder1
import Derived.Test.YtmedhadbdofioaaGreatDoorProg
set_option linter.all false
set_option maxRecDepth 100000
open Go renaming Calls→xL,World→yi
open Go.Proofs.Lays renaming n101→yaN,n103→yaG,n105→yaP,n129→yaI,n134→yaF,n145→yaL,n160→yaE,n166→yaQ,n169→yaD,n172→yaH,n264→yaO,n283→yaJ,n285→yaK,n99→yaM
open Go.Proofs.Lays7 renaming n25→yav,n26→yaw
open Go.Proofs.LaysM renaming n145→yau,n171→yat,n284→yas
open Go.Shelf renaming Ren→xv
namespace Go.Proofs
open Go.Shelf
def Tryz.Ye:xv:=⟨fun | 169=>211 | n=>n,fun | 70=>247 | 9=>9 | 0=>0 | 72=>250 | 37=>248 | 127=>285 | 3=>3 | 5=>5 | n=>n,fun | n=>n⟩
def Tryz.aoR:yaD Tryz.prog Tryz.Ye:=by
 repeat' first | kernel_rfl | (intro w;kernel_rfl) | decide | constructor
def Tryz.aid:Builder.Extra Tryz.prog Tryz.Ye:=by
 repeat' first | kernel_rfl | (intro w;kernel_rfl) | decide | constructor
open Go.RowKit in
def Tryz.Builder_String_any (B b:Nat) (l:List UInt8) (w:yi) (h:Lib.IsBuilder 250 5 B b (Lib.byteCells l) w) (VX:B<=w.heap.size):
  xL Tryz.prog 211 #[.pointer (some ⟨b,0,none⟩)] w fun e w'=>e= .returned (.string ⟨l.toArray⟩)/\Below B w w':=Any.Builder_String_any Tryz.aoR Tryz.aid B b l w h VX
def Tryz.aiL:xv:=⟨fun | 160=>193 | 232=>238 | 231=>237 | 227=>239 | 234=>241 | 233=>240 | 236=>243 | 235=>242 | 228=>267 | 271=>270 | 151=>269 | 197=>268 | 120=>288 | 152=>287 | 260=>286 | 137=>297 | 119=>298 | 224=>265 | 225=>264 | 217=>263 | 266=>284 | n=>n,fun | 9=>9 | 4=>4 | 3=>3 | 5=>5 | 117=>271 | 116=>270 | 0=>0 | 124=>274 | 21=>21 | 105=>289 | 46=>276 | 119=>321 | 139=>324 | 138=>323 | n=>n,fun | 3=>6 | 4=>7 | n=>n⟩
def Tryz.aoS:yaE Tryz.prog Tryz.aiL:=by
 repeat' first | kernel_rfl | (intro w;kernel_rfl) | decide | constructor
def Tryz.aiM:xv:=⟨fun | 134=>251 | 129=>247 | n=>n,fun | 53=>241 | 3=>3 | 4=>4 | 46=>276 | 5=>5 | 9=>9 | n=>n,fun | n=>n⟩
def Tryz.aoT:yaF Tryz.prog Tryz.aiM:=by
 repeat' first | kernel_rfl | (intro w;kernel_rfl) | decide | constructor
def Tryz.bits_LeadingZeros64 (x:Int) (w:yi) (h0:0<=x) (h1:x<=18446744073709551615):
  xL Tryz.prog 251 #[.int .u64 x] w fun e w'=>e= .returned (.int .i64 (64-(Lib.bitLen x.toNat:Int)))/\w'=w:=Any.bits_LeadingZeros64 Tryz.aoT x w h0 h1
def Tryz.aiN:xv:=⟨fun | 103=>143 | 210=>191 | 206=>235 | n=>n,fun | 9=>9 | 4=>4 | 24=>185 | 3=>3 | n=>n,fun | n=>n⟩
def Tryz.aoU:yaG Tryz.prog Tryz.aiN:=by
 repeat' first | kernel_rfl | (intro w;kernel_rfl) | decide | constructor
open Go.RowKit in
def Tryz.strings_CutPrefix (s p:ByteArray) (w:yi):
  xL Tryz.prog 143 #[.string s,.string p] w fun e w'=>e= .returned (.tuple #[.string ⟨(Lib.trimPrefix s.data.toList p.data.toList).toArray⟩,.bool (Lib.hasPrefix s.data.toList p.data.toList)])/\w'=w:=Any.strings_CutPrefix Tryz.aoU s p w
def Tryz.aiO:xv:=⟨fun | 172=>198 | 244=>245 | 245=>246 | 247=>271 | 279=>272 | 280=>273 | 281=>274 | 282=>275 | 287=>289 | 316=>290 | 171=>205 | 205=>291 | 321=>299 | 322=>300 | 243=>248 | 246=>276 | 283=>277 | 284=>278 | 285=>279 | 286=>280 | 129=>247 | 317=>292 | 318=>293 | 319=>294 | 320=>295 | 337=>301 | 338=>302 | n=>n,fun | 9=>9 | 3=>3 | 75=>234 | 76=>235 | 4=>4 | 5=>5 | 167=>292 | 37=>248 | 0=>0 | 85=>293 | 2=>2 | 168=>295 | 53=>241 | 175=>310 | 46=>276 | 210=>314 | 127=>285 | 145=>329 | 143=>327 | 21=>21 | 171=>299 | 173=>301 | 212=>317 | 51=>303 | 20=>20 | 213=>318 | 232=>331 | 233=>332 | 80=>197 | n=>n,fun | 15=>3 | 16=>4 | 17=>5 | 18=>8 | 19=>9 | n=>n⟩
def Tryz.aoV:yaH Tryz.prog Tryz.aiO:=by
 repeat' first | kernel_rfl | (intro w;kernel_rfl) | decide | constructor
open Go.RowKit in
def Tryz.strconv_Atoi (s:ByteArray) (n:Int) (hl:s.size<=18) (h:Lib.atoi s.data.toList=some n) (w:yi):
  xL Tryz.prog 198 #[.string s] w fun e w'=>e= .returned (.tuple #[.int .i64 n,.nilIface])/\∃t,w'=Lib.bytesWorld w 5 t:=Any.strconv_Atoi Tryz.aoV s n hl h w
def Tryz.aiP:xv:=⟨fun | 129=>247 | n=>n,fun | 53=>241 | 3=>3 | 4=>4 | 46=>276 | 5=>5 | 9=>9 | n=>n,fun | n=>n⟩
def Tryz.aoW:yaI Tryz.prog Tryz.aiP:=by
 repeat' first | kernel_rfl | (intro w;kernel_rfl) | decide | constructor
def Tryz.bits_Len64 (x:Int) (w:yi) (h0:0<=x) (h1:x<=18446744073709551615):
  xL Tryz.prog 247 #[.int .u64 x] w fun e w'=>e= .returned (.int .i64 (Lib.bitLen x.toNat))/\w'=w:=Any.bits_Len64 Tryz.aoW x w h0 h1
def Tryz.aiQ:xv:=⟨fun | 283=>277 | n=>n,fun | 3=>3 | 9=>9 | 4=>4 | n=>n,fun | n=>n⟩
def Tryz.aoX:yaJ Tryz.prog Tryz.aiQ:=by
 repeat' first | kernel_rfl | (intro w;kernel_rfl) | decide | constructor
open Go.Lib in
def Tryz.internal_strconv_small (i:Nat) (h:i<100) (w:yi):
  xL Tryz.prog 277 #[.int .i64 i] w fun e w'=>e= .returned (.string ⟨(Lib.decDigits i).toArray⟩)/\w'=w:=Any.internal_strconv_small Tryz.aoX i h w
def Tryz.aix:xv:=⟨fun | 284=>278 | 129=>247 | 317=>292 | 318=>293 | n=>n,fun | 53=>241 | 3=>3 | 212=>317 | 0=>0 | 4=>4 | 46=>276 | 5=>5 | 9=>9 | n=>n,fun | 17=>5 | n=>n⟩
def Tryz.amI:yas Tryz.prog Tryz.aix:=by
 repeat' first | kernel_rfl | (intro w;kernel_rfl) | decide | constructor
open Go.Lib in
def Tryz.internal_strconv_numDigits (u:Nat) (h1:1<=u) (h2:u<18446744073709551616) (w:yi) (C2:Lib.TabIs Tryz.prog w "internal/strconv.uint64pow10" .u64 Lib.pow10Tab):
  xL Tryz.prog 278 #[.int .u64 u] w fun e w'=>e= .returned (.int .i64 (Lib.nDigits u))/\w'=w:=Any.internal_strconv_numDigits Tryz.amI u h1 h2 w C2
def Tryz.aiR:xv:=⟨fun | 285=>279 | n=>n,fun | 37=>248 | 53=>241 | 3=>3 | 4=>4 | 51=>303 | 9=>9 | 5=>5 | 0=>0 | n=>n,fun | n=>n⟩
def Tryz.aoY:yaK Tryz.prog Tryz.aiR:=by
 repeat' first | kernel_rfl | (intro w;kernel_rfl) | decide | constructor
open Go.RowKit Go.Sort Go.Lib in
def Tryz.internal_strconv_formatBase10 (aK off cap:Nat) (u:Nat) (d:Array UInt8) (w:yi) (hH:Holds (fun (b:UInt8)=>Value.int .u8 (b.toNat:Int)) w aK off d) (hu:u<10^d.size) (C3:u<18446744073709551616) (fa:d.size<4611686018427387904):
  xL Tryz.prog 279 #[.slice (some ⟨aK,off,none⟩) d.size cap,.int .u64 u] w fun e w'=>
   e= .returned (.tuple #[])/\∃(n v':Nat) (dk:Array UInt8),w'=(putRow (fun (b:UInt8)=>Value.int .u8 (b.toNat:Int)) w aK off dk).drewN n/\FmtInv d.size u 0 v' dk:=Any.internal_strconv_formatBase10 Tryz.aoY aK off cap u d w hH hu C3 fa
def Tryz.aiy:xv:=⟨fun | 171=>205 | 243=>248 | 246=>276 | 283=>277 | 284=>278 | 285=>279 | 286=>280 | 129=>247 | 317=>292 | 318=>293 | 319=>294 | 320=>295 | 337=>301 | 338=>302 | n=>n,fun | 3=>3 | 9=>9 | 2=>2 | 4=>4 | 171=>299 | 0=>0 | 53=>241 | 37=>248 | 5=>5 | 173=>301 | 212=>317 | 51=>303 | 20=>20 | 213=>318 | 46=>276 | 232=>331 | 233=>332 | n=>n,fun | 17=>5 | 18=>8 | 19=>9 | n=>n⟩
def Tryz.amJ:yat Tryz.prog Tryz.aiy:=by
 repeat' first | kernel_rfl | (intro w;kernel_rfl) | decide | constructor
open Go.RowKit Go.Sort Go.Lib in
def Tryz.strconv_Itoa (n:Int) (h0: -9223372036854775808<=n) (h1:n<=9223372036854775807) (w:yi) (C2:Lib.TabIs Tryz.prog w "internal/strconv.uint64pow10" .u64 Lib.pow10Tab):
  xL Tryz.prog 205 #[.int .i64 n] w fun e w'=>e= .returned (.string ⟨(Lib.itoa n).toArray⟩)/\∃k os,w'=grow (w.drewN k) os:=Any.strconv_Itoa Tryz.amJ n h0 h1 w C2
def Tryz.aiS:xv:=⟨fun | 145=>144 | 220=>192 | 219=>236 | 217=>263 | 225=>264 | 224=>265 | 267=>266 | 266=>284 | 314=>285 | n=>n,fun | 9=>9 | 4=>4 | 59=>187 | 3=>3 | 5=>5 | 46=>276 | 146=>304 | 51=>303 | n=>n,fun | 1=>0 | n=>n⟩
def Tryz.aoZ:yaL Tryz.prog Tryz.aiS:=by
 repeat' first | kernel_rfl | (intro w;kernel_rfl) | decide | constructor
open Go.RowKit Go.Lib in
def Tryz.strings_Cut (s sep:ByteArray) (m:Int) (w:yi) (hs:s.size<4294967281) (hm:w.cell? ⟨0,0,none⟩=some (.int .i64 m)):
  xL Tryz.prog 144 #[.string s,.string sep] w fun e w'=>e= .returned (.tuple #[.string ⟨(Lib.cut s.data.toList sep.data.toList).1.toArray⟩,.string ⟨(Lib.cut s.data.toList sep.data.toList).2.1.toArray⟩,.bool (Lib.cut s.data.toList sep.data.toList).2.2])/\∃n,w'=w.drewN n:=Any.strings_Cut Tryz.aoZ s sep m w hs hm
def Tryz.aiz:xv:=⟨fun | 145=>144 | 220=>192 | 219=>236 | 217=>263 | 225=>264 | 224=>265 | 267=>266 | 266=>284 | 314=>285 | n=>n,fun | 9=>9 | 4=>4 | 59=>187 | 3=>3 | 5=>5 | 46=>276 | 146=>304 | 51=>303 | n=>n,fun | 1=>0 | n=>n⟩
def Tryz.amK:yau Tryz.prog Tryz.aiz:=by
 repeat' first | kernel_rfl | (intro w;kernel_rfl) | exact fun w h=>Go.Proofs.cell_of_shapedOpen_int (zero:=#[.int .i64 0]) (t:=3) h (of_decide_eq_true (by kernel_rfl)) (by kernel_rfl) rfl (by kernel_rfl) (by kernel_rfl) Tryz.underlying3 | decide | constructor
def Tryz.ajq:xv:=⟨fun | 99=>196 | 206=>235 | n=>n,fun | 9=>9 | 4=>4 | 3=>3 | n=>n,fun | n=>n⟩
def Tryz.aqX:yaM Tryz.prog Tryz.ajq:=by
 repeat' first | kernel_rfl | (intro w;kernel_rfl) | decide | constructor
open Go.RowKit Go.Lib in
def Tryz.strings_HasPrefix (s p:ByteArray) (w:yi):
  xL Tryz.prog 196 #[.string s,.string p] w fun e w'=>e= .returned (.bool (Lib.hasPrefix s.data.toList p.data.toList))/\w'=w:=Any.strings_HasPrefix Tryz.aqX s p w
def Tryz.aiT:xv:=⟨fun | 101=>197 | 208=>244 | 206=>235 | n=>n,fun | 9=>9 | 4=>4 | 3=>3 | n=>n,fun | n=>n⟩
def Tryz.ao0:yaN Tryz.prog Tryz.aiT:=by
 repeat' first | kernel_rfl | (intro w;kernel_rfl) | decide | constructor
open Go.RowKit Go.Lib in
def Tryz.strings_TrimPrefix (s p:ByteArray) (w:yi):
  xL Tryz.prog 197 #[.string s,.string p] w fun e w'=>e= .returned (.string ⟨(Lib.trimPrefix s.data.toList p.data.toList).toArray⟩)/\w'=w:=Any.strings_TrimPrefix Tryz.ao0 s p w
def Tryz.aiU:xv:=⟨fun | 264=>222 | n=>n,fun | 53=>241 | 46=>276 | n=>n,fun | n=>n⟩
def Tryz.ao1:yaO Tryz.prog Tryz.aiU:=by
 repeat' first | kernel_rfl | (intro w;kernel_rfl) | decide | constructor
open Go.RowKit Go.Lib in
def Tryz.bits_Mul64 (x y:Nat) (hx:x<18446744073709551616) (hy:y<18446744073709551616) (w:yi):
  xL Tryz.prog 222 #[.int .u64 x,.int .u64 y] w fun e w'=>e= .returned (.tuple #[.int .u64 ((x*y/18446744073709551616:Nat):Int),.int .u64 ((x*y%18446744073709551616:Nat):Int)])/\w'=w:=Any.bits_Mul64 Tryz.ao1 x y hx hy w
def Tryz.Yf:xv:=⟨fun | 105=>209 | 212=>255 | 99=>196 | 165=>256 | 166=>210 | 170=>257 | 169=>211 | 263=>281 | 264=>222 | 206=>235 | 240=>258 | 241=>282 | 276=>283 | 277=>296 | n=>n,fun | 9=>9 | 3=>3 | 4=>4 | 20=>20 | 0=>0 | 46=>276 | 109=>282 | 5=>5 | 72=>250 | 76=>235 | 51=>303 | 146=>304 | 53=>241 | 148=>254 | 70=>247 | 37=>248 | 75=>234 | 127=>285 | 164=>306 | 80=>197 | n=>n,fun | n=>n⟩
def Tryz.ao2:yaP Tryz.prog Tryz.Yf:=by
 repeat' first | kernel_rfl | (intro w;kernel_rfl) | decide | constructor
def Tryz.aie:Builder.Extra Tryz.prog Tryz.Yf:=by
 repeat' first | kernel_rfl | (intro w;kernel_rfl) | decide | constructor
open Go.RowKit Go.Lib in
def Tryz.strings_Repeat (s:ByteArray) (c:Nat) (w:yi) (hc:c<=9223372036854775807) (hlen:s.size*c<=140737488355328):
  xL Tryz.prog 209 #[.string s,.int .i64 c] w fun e w'=>e= .returned (.string ⟨(Lib.repeatL s.data.toList c).toArray⟩)/\Below w.heap.size w w':=Any.strings_Repeat Tryz.ao2 Tryz.aie s c w hc hlen
def Tryz.aiA:xv:=⟨fun | 25=>261 | n=>n,fun | 22=>241 | n=>n,fun | n=>n⟩
def Tryz.amL:yav Tryz.prog Tryz.aiA:=by
 repeat' first | kernel_rfl | (intro w;kernel_rfl) | decide | constructor
def Tryz.aiB:xv:=⟨fun | 26=>262 | n=>n,fun | 22=>241 | n=>n,fun | n=>n⟩
def Tryz.amM:yaw Tryz.prog Tryz.aiB:=by
 repeat' first | kernel_rfl | (intro w;kernel_rfl) | decide | constructor
def Tryz.bits_Add64 (x y c:Nat) (hc:c<=1) (w:yi):
  (callFunc 261 #[.int .u64 x,.int .u64 y,.int .u64 c]).run Tryz.prog w=
   .ok (.value (.tuple #[.int .u64 (((x+y+c)%18446744073709551616:Nat):Int),.int .u64 (((x+y+c)/18446744073709551616:Nat):Int)])) w:=Any7.bits_Add64 Tryz.amL x y c hc w
def Tryz.bits_Sub64 (x y b:Nat) (hb:b<=1) (w:yi):
  (callFunc 262 #[.int .u64 x,.int .u64 y,.int .u64 b]).run Tryz.prog w=
   .ok (.value (.tuple #[.int .u64 (((x+18446744073709551616-y-b)%18446744073709551616:Nat):Int),.int .u64 ((if x<y+b then 1 else 0:Nat):Int)])) w:=Any7.bits_Sub64 Tryz.amM x y b hb w
open Go.RowKit in
def Tryz.aiC (s Iy:ByteArray) (w:yi) (hs:s.size<=9223372036854775807) (jj:Iy.size<4294967281) (aqY:∀(j:Nat) b,Iy.data.toList[j]? =some b->b.toNat<128):
  xL Tryz.prog 193 #[.string s,.string Iy] w fun e w'=>e= .returned (.string ⟨(Lib.trimS s.data.toList Iy.data.toList).toArray⟩)/\Below w.heap.size w w':=
 Any.strings_Trim_laid Tryz.aoS (by kernel_rfl) s Iy w hs jj aqY
def Tryz.s1_3 (w:yi) (h:w.ShapedOpen Tryz.prog):∃m,w.cell? ⟨0,0,none⟩=some (.int .i64 m):=Tryz.amK.s1_3 w h
def Tryz.Yg:xv:=⟨fun | 166=>210 | 240=>258 | 276=>283 | n=>n,fun | 20=>20 | 37=>248 | 70=>247 | 72=>250 | 75=>234 | 80=>197 | 164=>306 | n=>n,fun | n=>n⟩
def Tryz.ao3:yaQ Tryz.prog Tryz.Yg:=by
 repeat' first | kernel_rfl | (intro w;kernel_rfl) | decide | constructor
def Tryz.aif:Builder.Extra Tryz.prog Tryz.Yg:=by
 repeat' first | kernel_rfl | (intro w;kernel_rfl) | decide | constructor
open Go.RowKit in
def Tryz.Builder_WriteString (B b:Nat) (bs:List Value) (s:ByteArray) (w:yi) (h:Lib.IsBuilder 250 5 B b bs w) (hlen:bs.length+s.size<=140737488355328) (VX:B<=w.heap.size):
  xL Tryz.prog 210 #[.pointer (some ⟨b,0,none⟩),.string s] w fun e w'=>e= .returned (.tuple #[.int .i64 s.size,.nilIface])/\(Lib.BuilderAt 250 5 B b (.pointer (some ⟨b,0,none⟩)) (bs++Lib.strCells s) w'/\Below B w w'):=Any.Builder_WriteString Tryz.ao3 Tryz.aif B b bs s w h hlen VX
end Go.Proofs
