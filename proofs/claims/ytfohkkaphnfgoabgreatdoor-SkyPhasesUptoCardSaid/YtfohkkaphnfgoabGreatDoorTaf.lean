import Derived.Shelf.Small.Bits
import Derived.Shelf.Small.Wraps
import Derived.Shelf.Strconv.Atoi
import Derived.Shelf.LaysM
import Derived.Shelf.Strconv.Itoa3
import Derived.Shelf.Strings.Cut
import Derived.Shelf.Strings.Prefix
import Derived.Shelf.Bits.Mul64
import Derived.Shelf.Strings.Repeat
import Derived.Shelf.Strings.SlTrimAscii
import Derived.Shelf.Spec.BitsCarry
import Derived.Shelf.Strings.Builder1
import Derived.Test.YtfohkkaphnfgoabGreatDoorProg
set_option linter.all false
set_option maxRecDepth 100000
open Go renaming Calls→xK,World→yg
open Go.Proofs.Lays renaming n101→yaV,n103→yaO,n105→yaX,n129→yaQ,n134→yaN,n145→yaT,n160→yaM,n166→yaY,n169→yaL,n172→yaP,n264→yaW,n283→yaR,n285→yaS,n99→yaU
open Go.Proofs.Lays7 renaming n25→yaz,n26→yaA
open Go.Proofs.LaysM renaming n145→yay,n171→yax,n284→yaw
open Go.Shelf renaming Ren→xD
namespace Go.Proofs
open Go.Shelf
def Tryz.Wq:xD:=⟨fun | 169=>205 | n=>n,fun | 70=>243 | 9=>9 | 0=>0 | 72=>246 | 37=>244 | 127=>279 | 3=>3 | 5=>5 | n=>n,fun | n=>n⟩
def Tryz.amb:yaL Tryz.prog Tryz.Wq:=by
 repeat' first | kernel_rfl | (intro w;kernel_rfl) | decide | constructor
def Tryz.af2:Builder.Extra Tryz.prog Tryz.Wq:=by
 repeat' first | kernel_rfl | (intro w;kernel_rfl) | decide | constructor
open Go.RowKit in
def Tryz.Builder_String_any (B b:Nat) (l:List UInt8) (w:yg) (h:Lib.IsBuilder 246 5 B b (Lib.byteCells l) w) (Um:B<=w.heap.size):
  xK Tryz.prog 205 #[.pointer (some ⟨b,0,none⟩)] w fun e w'=>e= .returned (.string ⟨l.toArray⟩)/\Below B w w':=Any.Builder_String_any Tryz.amb Tryz.af2 B b l w h Um
def Tryz.agx:xD:=⟨fun | 160=>226 | 232=>258 | 231=>257 | 227=>259 | 234=>261 | 233=>260 | 236=>263 | 235=>262 | 228=>286 | 271=>289 | 151=>288 | 197=>287 | 120=>302 | 152=>301 | 260=>300 | 137=>307 | 119=>308 | 224=>279 | 225=>278 | 217=>277 | 266=>295 | n=>n,fun | 9=>9 | 4=>4 | 3=>3 | 5=>5 | 117=>285 | 116=>284 | 0=>0 | 124=>288 | 21=>21 | 105=>309 | 46=>275 | 119=>330 | 139=>333 | 138=>332 | n=>n,fun | 3=>6 | 4=>7 | n=>n⟩
def Tryz.amc:yaM Tryz.prog Tryz.agx:=by
 repeat' first | kernel_rfl | (intro w;kernel_rfl) | decide | constructor
def Tryz.agy:xD:=⟨fun | 134=>242 | 129=>264 | n=>n,fun | 53=>237 | 3=>3 | 4=>4 | 46=>275 | 5=>5 | 9=>9 | n=>n,fun | n=>n⟩
def Tryz.amd:yaN Tryz.prog Tryz.agy:=by
 repeat' first | kernel_rfl | (intro w;kernel_rfl) | decide | constructor
def Tryz.bits_LeadingZeros64 (x:Int) (w:yg) (h0:0<=x) (h1:x<=18446744073709551615):
  xK Tryz.prog 242 #[.int .u64 x] w fun e w'=>e= .returned (.int .i64 (64-(Lib.bitLen x.toNat:Int)))/\w'=w:=Any.bits_LeadingZeros64 Tryz.amd x w h0 h1
def Tryz.agz:xD:=⟨fun | 103=>171 | 210=>225 | 206=>252 | n=>n,fun | 9=>9 | 4=>4 | 24=>209 | 3=>3 | n=>n,fun | n=>n⟩
def Tryz.ame:yaO Tryz.prog Tryz.agz:=by
 repeat' first | kernel_rfl | (intro w;kernel_rfl) | decide | constructor
open Go.RowKit in
def Tryz.strings_CutPrefix (s p:ByteArray) (w:yg):
  xK Tryz.prog 171 #[.string s,.string p] w fun e w'=>e= .returned (.tuple #[.string ⟨(Lib.trimPrefix s.data.toList p.data.toList).toArray⟩,.bool (Lib.hasPrefix s.data.toList p.data.toList)])/\w'=w:=Any.strings_CutPrefix Tryz.ame s p w
def Tryz.agA:xD:=⟨fun | 172=>219 | 244=>254 | 245=>255 | 247=>281 | 279=>282 | 280=>283 | 281=>284 | 282=>285 | 287=>297 | 316=>298 | 171=>199 | 205=>299 | 321=>305 | 322=>306 | 243=>239 | 246=>269 | 283=>270 | 284=>271 | 285=>272 | 286=>273 | 129=>264 | 317=>290 | 318=>291 | 319=>292 | 320=>293 | 337=>303 | 338=>304 | n=>n,fun | 9=>9 | 3=>3 | 75=>248 | 76=>249 | 4=>4 | 5=>5 | 167=>302 | 37=>244 | 0=>0 | 85=>303 | 2=>2 | 168=>305 | 53=>237 | 175=>318 | 46=>275 | 210=>322 | 127=>279 | 145=>329 | 143=>327 | 21=>21 | 171=>292 | 173=>294 | 212=>313 | 51=>296 | 20=>20 | 213=>314 | 232=>335 | 233=>336 | 80=>181 | n=>n,fun | 15=>4 | 16=>5 | 17=>3 | 18=>8 | 19=>9 | n=>n⟩
def Tryz.amf:yaP Tryz.prog Tryz.agA:=by
 repeat' first | kernel_rfl | (intro w;kernel_rfl) | decide | constructor
open Go.RowKit in
def Tryz.strconv_Atoi (s:ByteArray) (n:Int) (hl:s.size<=18) (h:Lib.atoi s.data.toList=some n) (w:yg):
  xK Tryz.prog 219 #[.string s] w fun e w'=>e= .returned (.tuple #[.int .i64 n,.nilIface])/\∃t,w'=Lib.bytesWorld w 5 t:=Any.strconv_Atoi Tryz.amf s n hl h w
def Tryz.agB:xD:=⟨fun | 129=>264 | n=>n,fun | 53=>237 | 3=>3 | 4=>4 | 46=>275 | 5=>5 | 9=>9 | n=>n,fun | n=>n⟩
def Tryz.amg:yaQ Tryz.prog Tryz.agB:=by
 repeat' first | kernel_rfl | (intro w;kernel_rfl) | decide | constructor
def Tryz.bits_Len64 (x:Int) (w:yg) (h0:0<=x) (h1:x<=18446744073709551615):
  xK Tryz.prog 264 #[.int .u64 x] w fun e w'=>e= .returned (.int .i64 (Lib.bitLen x.toNat))/\w'=w:=Any.bits_Len64 Tryz.amg x w h0 h1
def Tryz.agC:xD:=⟨fun | 283=>270 | n=>n,fun | 3=>3 | 9=>9 | 4=>4 | n=>n,fun | n=>n⟩
def Tryz.amh:yaR Tryz.prog Tryz.agC:=by
 repeat' first | kernel_rfl | (intro w;kernel_rfl) | decide | constructor
open Go.Lib in
def Tryz.internal_strconv_small (i:Nat) (h:i<100) (w:yg):
  xK Tryz.prog 270 #[.int .i64 i] w fun e w'=>e= .returned (.string ⟨(Lib.decDigits i).toArray⟩)/\w'=w:=Any.internal_strconv_small Tryz.amh i h w
def Tryz.agk:xD:=⟨fun | 284=>271 | 129=>264 | 317=>290 | 318=>291 | n=>n,fun | 53=>237 | 3=>3 | 212=>313 | 0=>0 | 4=>4 | 46=>275 | 5=>5 | 9=>9 | n=>n,fun | 17=>3 | n=>n⟩
def Tryz.ake:yaw Tryz.prog Tryz.agk:=by
 repeat' first | kernel_rfl | (intro w;kernel_rfl) | decide | constructor
open Go.Lib in
def Tryz.internal_strconv_numDigits (u:Nat) (h1:1<=u) (h2:u<18446744073709551616) (w:yg) (Cf:Lib.TabIs Tryz.prog w "internal/strconv.uint64pow10" .u64 Lib.pow10Tab):
  xK Tryz.prog 271 #[.int .u64 u] w fun e w'=>e= .returned (.int .i64 (Lib.nDigits u))/\w'=w:=Any.internal_strconv_numDigits Tryz.ake u h1 h2 w Cf
def Tryz.agD:xD:=⟨fun | 285=>272 | n=>n,fun | 37=>244 | 53=>237 | 3=>3 | 4=>4 | 51=>296 | 9=>9 | 5=>5 | 0=>0 | n=>n,fun | n=>n⟩
def Tryz.ami:yaS Tryz.prog Tryz.agD:=by
 repeat' first | kernel_rfl | (intro w;kernel_rfl) | decide | constructor
open Go.RowKit Go.Sort Go.Lib in
def Tryz.internal_strconv_formatBase10 (aJ off cap:Nat) (u:Nat) (d:Array UInt8) (w:yg) (hH:Holds (fun (b:UInt8)=>Value.int .u8 (b.toNat:Int)) w aJ off d) (hu:u<10^d.size) (Cg:u<18446744073709551616) (eF:d.size<4611686018427387904):
  xK Tryz.prog 272 #[.slice (some ⟨aJ,off,none⟩) d.size cap,.int .u64 u] w fun e w'=>
   e= .returned (.tuple #[])/\∃(n v':Nat) (dk:Array UInt8),w'=(putRow (fun (b:UInt8)=>Value.int .u8 (b.toNat:Int)) w aJ off dk).drewN n/\FmtInv d.size u 0 v' dk:=Any.internal_strconv_formatBase10 Tryz.ami aJ off cap u d w hH hu Cg eF
def Tryz.agl:xD:=⟨fun | 171=>199 | 243=>239 | 246=>269 | 283=>270 | 284=>271 | 285=>272 | 286=>273 | 129=>264 | 317=>290 | 318=>291 | 319=>292 | 320=>293 | 337=>303 | 338=>304 | n=>n,fun | 3=>3 | 9=>9 | 2=>2 | 4=>4 | 171=>292 | 0=>0 | 53=>237 | 37=>244 | 5=>5 | 173=>294 | 212=>313 | 51=>296 | 20=>20 | 213=>314 | 46=>275 | 232=>335 | 233=>336 | n=>n,fun | 17=>3 | 18=>8 | 19=>9 | n=>n⟩
def Tryz.akf:yax Tryz.prog Tryz.agl:=by
 repeat' first | kernel_rfl | (intro w;kernel_rfl) | decide | constructor
open Go.RowKit Go.Sort Go.Lib in
def Tryz.strconv_Itoa (n:Int) (h0: -9223372036854775808<=n) (h1:n<=9223372036854775807) (w:yg) (Cf:Lib.TabIs Tryz.prog w "internal/strconv.uint64pow10" .u64 Lib.pow10Tab):
  xK Tryz.prog 199 #[.int .i64 n] w fun e w'=>e= .returned (.string ⟨(Lib.itoa n).toArray⟩)/\∃k os,w'=grow (w.drewN k) os:=Any.strconv_Itoa Tryz.akf n h0 h1 w Cf
def Tryz.agE:xD:=⟨fun | 145=>156 | 220=>216 | 219=>251 | 217=>277 | 225=>278 | 224=>279 | 267=>280 | 266=>295 | 314=>296 | n=>n,fun | 9=>9 | 4=>4 | 59=>196 | 3=>3 | 5=>5 | 46=>275 | 146=>297 | 51=>296 | n=>n,fun | 1=>2 | n=>n⟩
def Tryz.amj:yaT Tryz.prog Tryz.agE:=by
 repeat' first | kernel_rfl | (intro w;kernel_rfl) | decide | constructor
open Go.RowKit Go.Lib in
def Tryz.strings_Cut (s sep:ByteArray) (m:Int) (w:yg) (hs:s.size<4294967281) (hm:w.cell? ⟨2,0,none⟩=some (.int .i64 m)):
  xK Tryz.prog 156 #[.string s,.string sep] w fun e w'=>e= .returned (.tuple #[.string ⟨(Lib.cut s.data.toList sep.data.toList).1.toArray⟩,.string ⟨(Lib.cut s.data.toList sep.data.toList).2.1.toArray⟩,.bool (Lib.cut s.data.toList sep.data.toList).2.2])/\∃n,w'=w.drewN n:=Any.strings_Cut Tryz.amj s sep m w hs hm
def Tryz.agm:xD:=⟨fun | 145=>156 | 220=>216 | 219=>251 | 217=>277 | 225=>278 | 224=>279 | 267=>280 | 266=>295 | 314=>296 | n=>n,fun | 9=>9 | 4=>4 | 59=>196 | 3=>3 | 5=>5 | 46=>275 | 146=>297 | 51=>296 | n=>n,fun | 1=>2 | n=>n⟩
def Tryz.akg:yay Tryz.prog Tryz.agm:=by
 repeat' first | kernel_rfl | (intro w;kernel_rfl) | exact fun w h=>Go.Proofs.cell_of_shapedOpen_int (zero:=#[.int .i64 0]) (t:=3) h (of_decide_eq_true (by kernel_rfl)) (by kernel_rfl) rfl (by kernel_rfl) (by kernel_rfl) Tryz.underlying3 | decide | constructor
def Tryz.ag7:xD:=⟨fun | 99=>217 | 206=>252 | n=>n,fun | 9=>9 | 4=>4 | 3=>3 | n=>n,fun | n=>n⟩
def Tryz.aot:yaU Tryz.prog Tryz.ag7:=by
 repeat' first | kernel_rfl | (intro w;kernel_rfl) | decide | constructor
open Go.RowKit Go.Lib in
def Tryz.strings_HasPrefix (s p:ByteArray) (w:yg):
  xK Tryz.prog 217 #[.string s,.string p] w fun e w'=>e= .returned (.bool (Lib.hasPrefix s.data.toList p.data.toList))/\w'=w:=Any.strings_HasPrefix Tryz.aot s p w
def Tryz.agF:xD:=⟨fun | 101=>218 | 208=>253 | 206=>252 | n=>n,fun | 9=>9 | 4=>4 | 3=>3 | n=>n,fun | n=>n⟩
def Tryz.amk:yaV Tryz.prog Tryz.agF:=by
 repeat' first | kernel_rfl | (intro w;kernel_rfl) | decide | constructor
open Go.RowKit Go.Lib in
def Tryz.strings_TrimPrefix (s p:ByteArray) (w:yg):
  xK Tryz.prog 218 #[.string s,.string p] w fun e w'=>e= .returned (.string ⟨(Lib.trimPrefix s.data.toList p.data.toList).toArray⟩)/\w'=w:=Any.strings_TrimPrefix Tryz.amk s p w
def Tryz.agG:xD:=⟨fun | 264=>209 | n=>n,fun | 53=>237 | 46=>275 | n=>n,fun | n=>n⟩
def Tryz.aml:yaW Tryz.prog Tryz.agG:=by
 repeat' first | kernel_rfl | (intro w;kernel_rfl) | decide | constructor
open Go.RowKit Go.Lib in
def Tryz.bits_Mul64 (x y:Nat) (hx:x<18446744073709551616) (hy:y<18446744073709551616) (w:yg):
  xK Tryz.prog 209 #[.int .u64 x,.int .u64 y] w fun e w'=>e= .returned (.tuple #[.int .u64 ((x*y/18446744073709551616:Nat):Int),.int .u64 ((x*y%18446744073709551616:Nat):Int)])/\w'=w:=Any.bits_Mul64 Tryz.aml x y hx hy w
def Tryz.Wr:xD:=⟨fun | 105=>203 | 212=>246 | 99=>217 | 165=>247 | 166=>204 | 170=>248 | 169=>205 | 263=>274 | 264=>209 | 206=>252 | 240=>249 | 241=>275 | 276=>276 | 277=>294 | n=>n,fun | 9=>9 | 3=>3 | 4=>4 | 20=>20 | 0=>0 | 46=>275 | 109=>276 | 5=>5 | 72=>246 | 76=>249 | 51=>296 | 146=>297 | 53=>237 | 148=>252 | 70=>243 | 37=>244 | 75=>248 | 127=>279 | 164=>299 | 80=>181 | n=>n,fun | n=>n⟩
def Tryz.amm:yaX Tryz.prog Tryz.Wr:=by
 repeat' first | kernel_rfl | (intro w;kernel_rfl) | decide | constructor
def Tryz.af3:Builder.Extra Tryz.prog Tryz.Wr:=by
 repeat' first | kernel_rfl | (intro w;kernel_rfl) | decide | constructor
open Go.RowKit Go.Lib in
def Tryz.strings_Repeat (s:ByteArray) (c:Nat) (w:yg) (hc:c<=9223372036854775807) (hlen:s.size*c<=140737488355328):
  xK Tryz.prog 203 #[.string s,.int .i64 c] w fun e w'=>e= .returned (.string ⟨(Lib.repeatL s.data.toList c).toArray⟩)/\Below w.heap.size w w':=Any.strings_Repeat Tryz.amm Tryz.af3 s c w hc hlen
def Tryz.agn:xD:=⟨fun | 25=>250 | n=>n,fun | 22=>237 | n=>n,fun | n=>n⟩
def Tryz.akh:yaz Tryz.prog Tryz.agn:=by
 repeat' first | kernel_rfl | (intro w;kernel_rfl) | decide | constructor
def Tryz.ago:xD:=⟨fun | 26=>256 | n=>n,fun | 22=>237 | n=>n,fun | n=>n⟩
def Tryz.aki:yaA Tryz.prog Tryz.ago:=by
 repeat' first | kernel_rfl | (intro w;kernel_rfl) | decide | constructor
def Tryz.bits_Add64 (x y c:Nat) (hc:c<=1) (w:yg):
  (callFunc 250 #[.int .u64 x,.int .u64 y,.int .u64 c]).run Tryz.prog w=
   .ok (.value (.tuple #[.int .u64 (((x+y+c)%18446744073709551616:Nat):Int),.int .u64 (((x+y+c)/18446744073709551616:Nat):Int)])) w:=Any7.bits_Add64 Tryz.akh x y c hc w
def Tryz.bits_Sub64 (x y b:Nat) (hb:b<=1) (w:yg):
  (callFunc 256 #[.int .u64 x,.int .u64 y,.int .u64 b]).run Tryz.prog w=
   .ok (.value (.tuple #[.int .u64 (((x+18446744073709551616-y-b)%18446744073709551616:Nat):Int),.int .u64 ((if x<y+b then 1 else 0:Nat):Int)])) w:=Any7.bits_Sub64 Tryz.aki x y b hb w
open Go.RowKit in
def Tryz.agp (s Hm:ByteArray) (w:yg) (hs:s.size<=9223372036854775807) (iY:Hm.size<4294967281) (aou:∀(j:Nat) b,Hm.data.toList[j]? =some b->b.toNat<128):
  xK Tryz.prog 226 #[.string s,.string Hm] w fun e w'=>e= .returned (.string ⟨(Lib.trimS s.data.toList Hm.data.toList).toArray⟩)/\Below w.heap.size w w':=
 Any.strings_Trim_laid Tryz.amc (by kernel_rfl) s Hm w hs iY aou
def Tryz.s1_3 (w:yg) (h:w.ShapedOpen Tryz.prog):∃m,w.cell? ⟨2,0,none⟩=some (.int .i64 m):=Tryz.akg.s1_3 w h
def Tryz.Ws:xD:=⟨fun | 166=>204 | 240=>249 | 276=>276 | n=>n,fun | 20=>20 | 37=>244 | 70=>243 | 72=>246 | 75=>248 | 80=>181 | 164=>299 | n=>n,fun | n=>n⟩
def Tryz.amn:yaY Tryz.prog Tryz.Ws:=by
 repeat' first | kernel_rfl | (intro w;kernel_rfl) | decide | constructor
def Tryz.af4:Builder.Extra Tryz.prog Tryz.Ws:=by
 repeat' first | kernel_rfl | (intro w;kernel_rfl) | decide | constructor
open Go.RowKit in
def Tryz.Builder_WriteString (B b:Nat) (bs:List Value) (s:ByteArray) (w:yg) (h:Lib.IsBuilder 246 5 B b bs w) (hlen:bs.length+s.size<=140737488355328) (Um:B<=w.heap.size):
  xK Tryz.prog 204 #[.pointer (some ⟨b,0,none⟩),.string s] w fun e w'=>e= .returned (.tuple #[.int .i64 s.size,.nilIface])/\(Lib.BuilderAt 246 5 B b (.pointer (some ⟨b,0,none⟩)) (bs++Lib.strCells s) w'/\Below B w w'):=Any.Builder_WriteString Tryz.amn Tryz.af4 B b bs s w h hlen Um
end Go.Proofs
