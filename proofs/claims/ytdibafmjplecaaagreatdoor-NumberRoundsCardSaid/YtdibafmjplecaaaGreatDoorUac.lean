import Derived.Shelf.Small.Bits
import Derived.Shelf.Small.Wraps
import Derived.Shelf.Strconv.Atoi
import Derived.Shelf.LaysM
import Derived.Shelf.Strconv.Itoa3
import Derived.Shelf.Strings.Cut
import Derived.Shelf.Strings.Prefix
import Derived.Shelf.Bits.Mul64
import Derived.Shelf.Strings.Repeat
import Derived.Shelf.Strings.SlTrimAscii
import Derived.Shelf.Spec.BitsCarry
import Derived.Shelf.Strings.Builder1
import Derived.Test.YtdibafmjplecaaaGreatDoorProg
set_option linter.all false
set_option maxRecDepth 100000
open Go renaming Calls→xX,World→yi
open Go.Proofs.Lays renaming n101→ybR,n103→ybK,n105→ybT,n129→ybM,n134→ybJ,n145→ybP,n160→ybI,n166→ybU,n169→ybH,n172→ybL,n264→ybS,n283→ybN,n285→ybO,n99→ybQ
open Go.Proofs.Lays7 renaming n25→ybv,n26→ybw
open Go.Proofs.LaysM renaming n145→ybu,n171→ybt,n284→ybs
open Go.Shelf renaming Ren→xP
namespace Go.Proofs
open Go.Shelf
def Tryz.YB:xP:=⟨fun | 169=>173 | n=>n,fun | 70=>196 | 9=>9 | 0=>0 | 72=>199 | 37=>197 | 127=>235 | 3=>3 | 5=>5 | n=>n,fun | n=>n⟩
def Tryz.aqY:ybH Tryz.prog Tryz.YB:=by
 repeat' first | kernel_rfl | (intro w;kernel_rfl) | decide | constructor
def Tryz.akY:Builder.Extra Tryz.prog Tryz.YB:=by
 repeat' first | kernel_rfl | (intro w;kernel_rfl) | decide | constructor
open Go.RowKit in
def Tryz.Builder_String_any (B b:Nat) (l:List UInt8) (w:yi) (h:Lib.IsBuilder 199 5 B b (Lib.byteCells l) w) (Xc:B<=w.heap.size):
  xX Tryz.prog 173 #[.pointer (some ⟨b,0,none⟩)] w fun e w'=>e= .returned (.string ⟨l.toArray⟩)/\Below B w w':=Any.Builder_String_any Tryz.aqY Tryz.akY B b l w h Xc
def Tryz.alw:xP:=⟨fun | 160=>179 | 232=>215 | 231=>214 | 227=>216 | 234=>218 | 233=>217 | 236=>220 | 235=>219 | 228=>239 | 271=>242 | 151=>241 | 197=>240 | 120=>257 | 152=>256 | 260=>255 | 137=>263 | 119=>264 | 224=>237 | 225=>236 | 217=>235 | 266=>253 | n=>n,fun | 9=>9 | 4=>4 | 3=>3 | 5=>5 | 117=>240 | 116=>239 | 0=>0 | 124=>243 | 21=>21 | 105=>259 | 46=>212 | 119=>283 | 139=>286 | 138=>285 | n=>n,fun | 3=>7 | 4=>8 | n=>n⟩
def Tryz.aqZ:ybI Tryz.prog Tryz.alw:=by
 repeat' first | kernel_rfl | (intro w;kernel_rfl) | decide | constructor
def Tryz.alx:xP:=⟨fun | 134=>204 | 129=>131 | n=>n,fun | 53=>164 | 3=>3 | 4=>4 | 46=>212 | 5=>5 | 9=>9 | n=>n,fun | n=>n⟩
def Tryz.aq0:ybJ Tryz.prog Tryz.alx:=by
 repeat' first | kernel_rfl | (intro w;kernel_rfl) | decide | constructor
def Tryz.bits_LeadingZeros64 (x:Int) (w:yi) (h0:0<=x) (h1:x<=18446744073709551615):
  xX Tryz.prog 204 #[.int .u64 x] w fun e w'=>e= .returned (.int .i64 (64-(Lib.bitLen x.toNat:Int)))/\w'=w:=Any.bits_LeadingZeros64 Tryz.aq0 x w h0 h1
def Tryz.aly:xP:=⟨fun | 103=>122 | 210=>177 | 206=>212 | n=>n,fun | 9=>9 | 4=>4 | 24=>154 | 3=>3 | n=>n,fun | n=>n⟩
def Tryz.aq1:ybK Tryz.prog Tryz.aly:=by
 repeat' first | kernel_rfl | (intro w;kernel_rfl) | decide | constructor
open Go.RowKit in
def Tryz.strings_CutPrefix (s p:ByteArray) (w:yi):
  xX Tryz.prog 122 #[.string s,.string p] w fun e w'=>e= .returned (.tuple #[.string ⟨(Lib.trimPrefix s.data.toList p.data.toList).toArray⟩,.bool (Lib.hasPrefix s.data.toList p.data.toList)])/\w'=w:=Any.strings_CutPrefix Tryz.aq1 s p w
def Tryz.alz:xP:=⟨fun | 172=>182 | 244=>222 | 245=>223 | 247=>243 | 279=>244 | 280=>245 | 281=>246 | 282=>247 | 287=>258 | 316=>259 | 171=>168 | 205=>260 | 321=>265 | 322=>266 | 243=>201 | 246=>227 | 283=>228 | 284=>229 | 285=>230 | 286=>231 | 129=>131 | 317=>248 | 318=>249 | 319=>250 | 320=>251 | 337=>261 | 338=>262 | n=>n,fun | 9=>9 | 3=>3 | 75=>201 | 76=>202 | 4=>4 | 5=>5 | 167=>262 | 37=>197 | 0=>0 | 85=>263 | 2=>2 | 168=>265 | 53=>164 | 175=>276 | 46=>212 | 210=>280 | 127=>235 | 145=>291 | 143=>289 | 21=>21 | 171=>247 | 173=>249 | 212=>269 | 51=>251 | 20=>20 | 213=>270 | 232=>292 | 233=>293 | 80=>149 | n=>n,fun | 15=>5 | 16=>6 | 17=>4 | 18=>9 | 19=>10 | n=>n⟩
def Tryz.aq2:ybL Tryz.prog Tryz.alz:=by
 repeat' first | kernel_rfl | (intro w;kernel_rfl) | decide | constructor
open Go.RowKit in
def Tryz.strconv_Atoi (s:ByteArray) (n:Int) (hl:s.size<=18) (h:Lib.atoi s.data.toList=some n) (w:yi):
  xX Tryz.prog 182 #[.string s] w fun e w'=>e= .returned (.tuple #[.int .i64 n,.nilIface])/\∃t,w'=Lib.bytesWorld w 5 t:=Any.strconv_Atoi Tryz.aq2 s n hl h w
def Tryz.alA:xP:=⟨fun | 129=>131 | n=>n,fun | 53=>164 | 3=>3 | 4=>4 | 46=>212 | 5=>5 | 9=>9 | n=>n,fun | n=>n⟩
def Tryz.aq3:ybM Tryz.prog Tryz.alA:=by
 repeat' first | kernel_rfl | (intro w;kernel_rfl) | decide | constructor
def Tryz.bits_Len64 (x:Int) (w:yi) (h0:0<=x) (h1:x<=18446744073709551615):
  xX Tryz.prog 131 #[.int .u64 x] w fun e w'=>e= .returned (.int .i64 (Lib.bitLen x.toNat))/\w'=w:=Any.bits_Len64 Tryz.aq3 x w h0 h1
def Tryz.alB:xP:=⟨fun | 283=>228 | n=>n,fun | 3=>3 | 9=>9 | 4=>4 | n=>n,fun | n=>n⟩
def Tryz.aq4:ybN Tryz.prog Tryz.alB:=by
 repeat' first | kernel_rfl | (intro w;kernel_rfl) | decide | constructor
open Go.Lib in
def Tryz.internal_strconv_small (i:Nat) (h:i<100) (w:yi):
  xX Tryz.prog 228 #[.int .i64 i] w fun e w'=>e= .returned (.string ⟨(Lib.decDigits i).toArray⟩)/\w'=w:=Any.internal_strconv_small Tryz.aq4 i h w
def Tryz.alf:xP:=⟨fun | 284=>229 | 129=>131 | 317=>248 | 318=>249 | n=>n,fun | 53=>164 | 3=>3 | 212=>269 | 0=>0 | 4=>4 | 46=>212 | 5=>5 | 9=>9 | n=>n,fun | 17=>4 | n=>n⟩
def Tryz.ao4:ybs Tryz.prog Tryz.alf:=by
 repeat' first | kernel_rfl | (intro w;kernel_rfl) | decide | constructor
open Go.Lib in
def Tryz.internal_strconv_numDigits (u:Nat) (h1:1<=u) (h2:u<18446744073709551616) (w:yi) (BJ:Lib.TabIs Tryz.prog w "internal/strconv.uint64pow10" .u64 Lib.pow10Tab):
  xX Tryz.prog 229 #[.int .u64 u] w fun e w'=>e= .returned (.int .i64 (Lib.nDigits u))/\w'=w:=Any.internal_strconv_numDigits Tryz.ao4 u h1 h2 w BJ
def Tryz.alC:xP:=⟨fun | 285=>230 | n=>n,fun | 37=>197 | 53=>164 | 3=>3 | 4=>4 | 51=>251 | 9=>9 | 5=>5 | 0=>0 | n=>n,fun | n=>n⟩
def Tryz.aq5:ybO Tryz.prog Tryz.alC:=by
 repeat' first | kernel_rfl | (intro w;kernel_rfl) | decide | constructor
open Go.RowKit Go.Sort Go.Lib in
def Tryz.internal_strconv_formatBase10 (dz off cap:Nat) (u:Nat) (d:Array UInt8) (w:yi) (hH:Holds (fun (b:UInt8)=>Value.int .u8 (b.toNat:Int)) w dz off d) (hu:u<10^d.size) (BK:u<18446744073709551616) (ez:d.size<4611686018427387904):
  xX Tryz.prog 230 #[.slice (some ⟨dz,off,none⟩) d.size cap,.int .u64 u] w fun e w'=>
   e= .returned (.tuple #[])/\∃(n v':Nat) (dk:Array UInt8),w'=(putRow (fun (b:UInt8)=>Value.int .u8 (b.toNat:Int)) w dz off dk).drewN n/\FmtInv d.size u 0 v' dk:=Any.internal_strconv_formatBase10 Tryz.aq5 dz off cap u d w hH hu BK ez
def Tryz.alg:xP:=⟨fun | 171=>168 | 243=>201 | 246=>227 | 283=>228 | 284=>229 | 285=>230 | 286=>231 | 129=>131 | 317=>248 | 318=>249 | 319=>250 | 320=>251 | 337=>261 | 338=>262 | n=>n,fun | 3=>3 | 9=>9 | 2=>2 | 4=>4 | 171=>247 | 0=>0 | 53=>164 | 37=>197 | 5=>5 | 173=>249 | 212=>269 | 51=>251 | 20=>20 | 213=>270 | 46=>212 | 232=>292 | 233=>293 | n=>n,fun | 17=>4 | 18=>9 | 19=>10 | n=>n⟩
def Tryz.ao5:ybt Tryz.prog Tryz.alg:=by
 repeat' first | kernel_rfl | (intro w;kernel_rfl) | decide | constructor
open Go.RowKit Go.Sort Go.Lib in
def Tryz.strconv_Itoa (n:Int) (h0: -9223372036854775808<=n) (h1:n<=9223372036854775807) (w:yi) (BJ:Lib.TabIs Tryz.prog w "internal/strconv.uint64pow10" .u64 Lib.pow10Tab):
  xX Tryz.prog 168 #[.int .i64 n] w fun e w'=>e= .returned (.string ⟨(Lib.itoa n).toArray⟩)/\∃k os,w'=grow (w.drewN k) os:=Any.strconv_Itoa Tryz.ao5 n h0 h1 w BJ
def Tryz.alD:xP:=⟨fun | 145=>123 | 220=>178 | 219=>213 | 217=>235 | 225=>236 | 224=>237 | 267=>238 | 266=>253 | 314=>254 | n=>n,fun | 9=>9 | 4=>4 | 59=>156 | 3=>3 | 5=>5 | 46=>212 | 146=>252 | 51=>251 | n=>n,fun | 1=>3 | n=>n⟩
def Tryz.aq6:ybP Tryz.prog Tryz.alD:=by
 repeat' first | kernel_rfl | (intro w;kernel_rfl) | decide | constructor
open Go.RowKit Go.Lib in
def Tryz.strings_Cut (s sep:ByteArray) (m:Int) (w:yi) (hs:s.size<4294967281) (hm:w.cell? ⟨3,0,none⟩=some (.int .i64 m)):
  xX Tryz.prog 123 #[.string s,.string sep] w fun e w'=>e= .returned (.tuple #[.string ⟨(Lib.cut s.data.toList sep.data.toList).1.toArray⟩,.string ⟨(Lib.cut s.data.toList sep.data.toList).2.1.toArray⟩,.bool (Lib.cut s.data.toList sep.data.toList).2.2])/\∃n,w'=w.drewN n:=Any.strings_Cut Tryz.aq6 s sep m w hs hm
def Tryz.alh:xP:=⟨fun | 145=>123 | 220=>178 | 219=>213 | 217=>235 | 225=>236 | 224=>237 | 267=>238 | 266=>253 | 314=>254 | n=>n,fun | 9=>9 | 4=>4 | 59=>156 | 3=>3 | 5=>5 | 46=>212 | 146=>252 | 51=>251 | n=>n,fun | 1=>3 | n=>n⟩
def Tryz.ao6:ybu Tryz.prog Tryz.alh:=by
 repeat' first | kernel_rfl | (intro w;kernel_rfl) | exact fun w h=>Go.Proofs.cell_of_shapedOpen_int (zero:=#[.int .i64 0]) (t:=3) h (of_decide_eq_true (by kernel_rfl)) (by kernel_rfl) rfl (by kernel_rfl) (by kernel_rfl) Tryz.underlying3 | decide | constructor
def Tryz.amd:xP:=⟨fun | 99=>180 | 206=>212 | n=>n,fun | 9=>9 | 4=>4 | 3=>3 | n=>n,fun | n=>n⟩
def Tryz.atj:ybQ Tryz.prog Tryz.amd:=by
 repeat' first | kernel_rfl | (intro w;kernel_rfl) | decide | constructor
open Go.RowKit Go.Lib in
def Tryz.strings_HasPrefix (s p:ByteArray) (w:yi):
  xX Tryz.prog 180 #[.string s,.string p] w fun e w'=>e= .returned (.bool (Lib.hasPrefix s.data.toList p.data.toList))/\w'=w:=Any.strings_HasPrefix Tryz.atj s p w
def Tryz.alE:xP:=⟨fun | 101=>181 | 208=>221 | 206=>212 | n=>n,fun | 9=>9 | 4=>4 | 3=>3 | n=>n,fun | n=>n⟩
def Tryz.aq7:ybR Tryz.prog Tryz.alE:=by
 repeat' first | kernel_rfl | (intro w;kernel_rfl) | decide | constructor
open Go.RowKit Go.Lib in
def Tryz.strings_TrimPrefix (s p:ByteArray) (w:yi):
  xX Tryz.prog 181 #[.string s,.string p] w fun e w'=>e= .returned (.string ⟨(Lib.trimPrefix s.data.toList p.data.toList).toArray⟩)/\w'=w:=Any.strings_TrimPrefix Tryz.aq7 s p w
def Tryz.alF:xP:=⟨fun | 264=>186 | n=>n,fun | 53=>164 | 46=>212 | n=>n,fun | n=>n⟩
def Tryz.aq8:ybS Tryz.prog Tryz.alF:=by
 repeat' first | kernel_rfl | (intro w;kernel_rfl) | decide | constructor
open Go.RowKit Go.Lib in
def Tryz.bits_Mul64 (x y:Nat) (hx:x<18446744073709551616) (hy:y<18446744073709551616) (w:yi):
  xX Tryz.prog 186 #[.int .u64 x,.int .u64 y] w fun e w'=>e= .returned (.tuple #[.int .u64 ((x*y/18446744073709551616:Nat):Int),.int .u64 ((x*y%18446744073709551616:Nat):Int)])/\w'=w:=Any.bits_Mul64 Tryz.aq8 x y hx hy w
def Tryz.YC:xP:=⟨fun | 105=>171 | 212=>208 | 99=>180 | 165=>209 | 166=>172 | 170=>210 | 169=>173 | 263=>232 | 264=>186 | 206=>212 | 240=>211 | 241=>233 | 276=>234 | 277=>252 | n=>n,fun | 9=>9 | 3=>3 | 4=>4 | 20=>20 | 0=>0 | 46=>212 | 109=>232 | 5=>5 | 72=>199 | 76=>202 | 51=>251 | 146=>252 | 53=>164 | 148=>213 | 70=>196 | 37=>197 | 75=>201 | 127=>235 | 164=>254 | 80=>149 | n=>n,fun | n=>n⟩
def Tryz.aq9:ybT Tryz.prog Tryz.YC:=by
 repeat' first | kernel_rfl | (intro w;kernel_rfl) | decide | constructor
def Tryz.akZ:Builder.Extra Tryz.prog Tryz.YC:=by
 repeat' first | kernel_rfl | (intro w;kernel_rfl) | decide | constructor
open Go.RowKit Go.Lib in
def Tryz.strings_Repeat (s:ByteArray) (c:Nat) (w:yi) (hc:c<=9223372036854775807) (hlen:s.size*c<=140737488355328):
  xX Tryz.prog 171 #[.string s,.int .i64 c] w fun e w'=>e= .returned (.string ⟨(Lib.repeatL s.data.toList c).toArray⟩)/\Below w.heap.size w w':=Any.strings_Repeat Tryz.aq9 Tryz.akZ s c w hc hlen
def Tryz.ali:xP:=⟨fun | 25=>224 | n=>n,fun | 22=>164 | n=>n,fun | n=>n⟩
def Tryz.ao7:ybv Tryz.prog Tryz.ali:=by
 repeat' first | kernel_rfl | (intro w;kernel_rfl) | decide | constructor
def Tryz.alj:xP:=⟨fun | 26=>226 | n=>n,fun | 22=>164 | n=>n,fun | n=>n⟩
def Tryz.ao8:ybw Tryz.prog Tryz.alj:=by
 repeat' first | kernel_rfl | (intro w;kernel_rfl) | decide | constructor
def Tryz.bits_Add64 (x y c:Nat) (hc:c<=1) (w:yi):
  (callFunc 224 #[.int .u64 x,.int .u64 y,.int .u64 c]).run Tryz.prog w=
   .ok (.value (.tuple #[.int .u64 (((x+y+c)%18446744073709551616:Nat):Int),.int .u64 (((x+y+c)/18446744073709551616:Nat):Int)])) w:=Any7.bits_Add64 Tryz.ao7 x y c hc w
def Tryz.bits_Sub64 (x y b:Nat) (hb:b<=1) (w:yi):
  (callFunc 226 #[.int .u64 x,.int .u64 y,.int .u64 b]).run Tryz.prog w=
   .ok (.value (.tuple #[.int .u64 (((x+18446744073709551616-y-b)%18446744073709551616:Nat):Int),.int .u64 ((if x<y+b then 1 else 0:Nat):Int)])) w:=Any7.bits_Sub64 Tryz.ao8 x y b hb w
open Go.RowKit in
def Tryz.alk (s Gl:ByteArray) (w:yi) (hs:s.size<=9223372036854775807) (Aq:Gl.size<4294967281) (atk:∀(j:Nat) b,Gl.data.toList[j]? =some b->b.toNat<128):
  xX Tryz.prog 179 #[.string s,.string Gl] w fun e w'=>e= .returned (.string ⟨(Lib.trimS s.data.toList Gl.data.toList).toArray⟩)/\Below w.heap.size w w':=
 Any.strings_Trim_laid Tryz.aqZ (by kernel_rfl) s Gl w hs Aq atk
def Tryz.s1_3 (w:yi) (h:w.ShapedOpen Tryz.prog):∃m,w.cell? ⟨3,0,none⟩=some (.int .i64 m):=Tryz.ao6.s1_3 w h
def Tryz.YD:xP:=⟨fun | 166=>172 | 240=>211 | 276=>234 | n=>n,fun | 20=>20 | 37=>197 | 70=>196 | 72=>199 | 75=>201 | 80=>149 | 164=>254 | n=>n,fun | n=>n⟩
def Tryz.ara:ybU Tryz.prog Tryz.YD:=by
 repeat' first | kernel_rfl | (intro w;kernel_rfl) | decide | constructor
def Tryz.ak0:Builder.Extra Tryz.prog Tryz.YD:=by
 repeat' first | kernel_rfl | (intro w;kernel_rfl) | decide | constructor
open Go.RowKit in
def Tryz.Builder_WriteString (B b:Nat) (bs:List Value) (s:ByteArray) (w:yi) (h:Lib.IsBuilder 199 5 B b bs w) (hlen:bs.length+s.size<=140737488355328) (Xc:B<=w.heap.size):
  xX Tryz.prog 172 #[.pointer (some ⟨b,0,none⟩),.string s] w fun e w'=>e= .returned (.tuple #[.int .i64 s.size,.nilIface])/\(Lib.BuilderAt 199 5 B b (.pointer (some ⟨b,0,none⟩)) (bs++Lib.strCells s) w'/\Below B w w'):=Any.Builder_WriteString Tryz.ara Tryz.ak0 B b bs s w h hlen Xc
end Go.Proofs
