import Derived.Shelf.Small.Bits
import Derived.Shelf.Small.Wraps
import Derived.Shelf.Strconv.Atoi
import Derived.Shelf.LaysM
import Derived.Shelf.Strconv.Itoa3
import Derived.Shelf.Strings.Cut
import Derived.Shelf.Strings.Prefix
import Derived.Shelf.Bits.Mul64
import Derived.Shelf.Strings.Repeat
import Derived.Shelf.Strings.SlTrimAscii
import Derived.Shelf.Spec.BitsCarry
import Derived.Shelf.Strings.Builder1
import Derived.Test.YtflgmingejdfnaaGreatDoorProg
set_option linter.all false
set_option maxRecDepth 100000
open Go renaming Calls→xv,World→yg
open Go.Proofs.Lays renaming n101→yat,n103→yam,n105→yav,n129→yao,n134→yal,n145→yar,n160→yak,n172→yan,n264→yau,n283→yap,n285→yaq,n99→yas
open Go.Proofs.Lays7 renaming n25→yad,n26→yae
open Go.Proofs.LaysM renaming n145→yac,n171→yab,n284→yaa
open Go.Shelf renaming Ren→xm
namespace Go.Proofs
open Go.Shelf
def Tryz.W9:xm:=⟨fun | 160=>261 | 232=>290 | 231=>289 | 227=>291 | 234=>293 | 233=>292 | 236=>295 | 235=>294 | 228=>316 | 271=>319 | 151=>318 | 197=>317 | 120=>332 | 152=>331 | 260=>330 | 137=>337 | 119=>338 | 224=>309 | 225=>308 | 217=>307 | 266=>325 | n=>n,fun | 9=>9 | 4=>4 | 3=>3 | 5=>5 | 117=>316 | 116=>315 | 0=>0 | 124=>319 | 21=>21 | 105=>339 | 46=>304 | 119=>360 | 139=>363 | 138=>362 | n=>n,fun | 3=>6 | 4=>7 | n=>n⟩
def Tryz.acs:yak Tryz.prog Tryz.W9:=by
 repeat' first | kernel_rfl | (intro w;kernel_rfl) | decide | constructor
def Tryz.Xa:xm:=⟨fun | 134=>270 | 129=>296 | n=>n,fun | 53=>267 | 3=>3 | 4=>4 | 46=>304 | 5=>5 | 9=>9 | n=>n,fun | n=>n⟩
def Tryz.acu:yal Tryz.prog Tryz.Xa:=by
 repeat' first | kernel_rfl | (intro w;kernel_rfl) | decide | constructor
def Tryz.bits_LeadingZeros64 (x:Int) (w:yg) (h0:0<=x) (h1:x<=18446744073709551615):
  xv Tryz.prog 270 #[.int .u64 x] w fun e w'=>e= .returned (.int .i64 (64-(Lib.bitLen x.toNat:Int)))/\w'=w:=Any.bits_LeadingZeros64 Tryz.acu x w h0 h1
def Tryz.Xb:xm:=⟨fun | 103=>217 | 210=>260 | 206=>284 | n=>n,fun | 9=>9 | 4=>4 | 24=>249 | 3=>3 | n=>n,fun | n=>n⟩
def Tryz.acv:yam Tryz.prog Tryz.Xb:=by
 repeat' first | kernel_rfl | (intro w;kernel_rfl) | decide | constructor
open Go.RowKit in
def Tryz.strings_CutPrefix (s p:ByteArray) (w:yg):
  xv Tryz.prog 217 #[.string s,.string p] w fun e w'=>e= .returned (.tuple #[.string ⟨(Lib.trimPrefix s.data.toList p.data.toList).toArray⟩,.bool (Lib.hasPrefix s.data.toList p.data.toList)])/\w'=w:=Any.strings_CutPrefix Tryz.acv s p w
def Tryz.Xc:xm:=⟨fun | 172=>254 | 244=>286 | 245=>287 | 247=>311 | 279=>312 | 280=>313 | 281=>314 | 282=>315 | 287=>327 | 316=>328 | 171=>229 | 205=>329 | 321=>335 | 322=>336 | 243=>267 | 246=>298 | 283=>299 | 284=>300 | 285=>301 | 286=>302 | 129=>296 | 317=>320 | 318=>321 | 319=>322 | 320=>323 | 337=>333 | 338=>334 | n=>n,fun | 9=>9 | 3=>3 | 75=>278 | 76=>279 | 4=>4 | 5=>5 | 167=>332 | 37=>274 | 0=>0 | 85=>333 | 2=>2 | 168=>335 | 53=>267 | 175=>348 | 46=>304 | 210=>352 | 127=>308 | 145=>359 | 143=>357 | 21=>21 | 171=>321 | 173=>323 | 212=>343 | 51=>325 | 20=>20 | 213=>344 | 232=>365 | 233=>366 | 80=>218 | n=>n,fun | 15=>4 | 16=>5 | 17=>3 | 18=>8 | 19=>9 | n=>n⟩
def Tryz.acw:yan Tryz.prog Tryz.Xc:=by
 repeat' first | kernel_rfl | (intro w;kernel_rfl) | decide | constructor
open Go.RowKit in
def Tryz.strconv_Atoi (s:ByteArray) (n:Int) (hl:s.size<=18) (h:Lib.atoi s.data.toList=some n) (w:yg):
  xv Tryz.prog 254 #[.string s] w fun e w'=>e= .returned (.tuple #[.int .i64 n,.nilIface])/\∃t,w'=Lib.bytesWorld w 5 t:=Any.strconv_Atoi Tryz.acw s n hl h w
def Tryz.Xd:xm:=⟨fun | 129=>296 | n=>n,fun | 53=>267 | 3=>3 | 4=>4 | 46=>304 | 5=>5 | 9=>9 | n=>n,fun | n=>n⟩
def Tryz.acx:yao Tryz.prog Tryz.Xd:=by
 repeat' first | kernel_rfl | (intro w;kernel_rfl) | decide | constructor
def Tryz.bits_Len64 (x:Int) (w:yg) (h0:0<=x) (h1:x<=18446744073709551615):
  xv Tryz.prog 296 #[.int .u64 x] w fun e w'=>e= .returned (.int .i64 (Lib.bitLen x.toNat))/\w'=w:=Any.bits_Len64 Tryz.acx x w h0 h1
def Tryz.Xe:xm:=⟨fun | 283=>299 | n=>n,fun | 3=>3 | 9=>9 | 4=>4 | n=>n,fun | n=>n⟩
def Tryz.acy:yap Tryz.prog Tryz.Xe:=by
 repeat' first | kernel_rfl | (intro w;kernel_rfl) | decide | constructor
open Go.Lib in
def Tryz.internal_strconv_small (i:Nat) (h:i<100) (w:yg):
  xv Tryz.prog 299 #[.int .i64 i] w fun e w'=>e= .returned (.string ⟨(Lib.decDigits i).toArray⟩)/\w'=w:=Any.internal_strconv_small Tryz.acy i h w
def Tryz.WW:xm:=⟨fun | 284=>300 | 129=>296 | 317=>320 | 318=>321 | n=>n,fun | 53=>267 | 3=>3 | 212=>343 | 0=>0 | 4=>4 | 46=>304 | 5=>5 | 9=>9 | n=>n,fun | 17=>3 | n=>n⟩
def Tryz.aaE:yaa Tryz.prog Tryz.WW:=by
 repeat' first | kernel_rfl | (intro w;kernel_rfl) | decide | constructor
open Go.Lib in
def Tryz.internal_strconv_numDigits (u:Nat) (h1:1<=u) (h2:u<18446744073709551616) (w:yg) (rF:Lib.TabIs Tryz.prog w "internal/strconv.uint64pow10" .u64 Lib.pow10Tab):
  xv Tryz.prog 300 #[.int .u64 u] w fun e w'=>e= .returned (.int .i64 (Lib.nDigits u))/\w'=w:=Any.internal_strconv_numDigits Tryz.aaE u h1 h2 w rF
def Tryz.Xf:xm:=⟨fun | 285=>301 | n=>n,fun | 37=>274 | 53=>267 | 3=>3 | 4=>4 | 51=>325 | 9=>9 | 5=>5 | 0=>0 | n=>n,fun | n=>n⟩
def Tryz.acz:yaq Tryz.prog Tryz.Xf:=by
 repeat' first | kernel_rfl | (intro w;kernel_rfl) | decide | constructor
open Go.RowKit Go.Sort Go.Lib in
def Tryz.internal_strconv_formatBase10 (aw off cap:Nat) (u:Nat) (d:Array UInt8) (w:yg) (hH:Holds (fun (b:UInt8)=>Value.int .u8 (b.toNat:Int)) w aw off d) (hu:u<10^d.size) (rG:u<18446744073709551616) (eU:d.size<4611686018427387904):
  xv Tryz.prog 301 #[.slice (some ⟨aw,off,none⟩) d.size cap,.int .u64 u] w fun e w'=>
   e= .returned (.tuple #[])/\∃(n v':Nat) (dk:Array UInt8),w'=(putRow (fun (b:UInt8)=>Value.int .u8 (b.toNat:Int)) w aw off dk).drewN n/\FmtInv d.size u 0 v' dk:=Any.internal_strconv_formatBase10 Tryz.acz aw off cap u d w hH hu rG eU
def Tryz.WX:xm:=⟨fun | 171=>229 | 243=>267 | 246=>298 | 283=>299 | 284=>300 | 285=>301 | 286=>302 | 129=>296 | 317=>320 | 318=>321 | 319=>322 | 320=>323 | 337=>333 | 338=>334 | n=>n,fun | 3=>3 | 9=>9 | 2=>2 | 4=>4 | 171=>321 | 0=>0 | 53=>267 | 37=>274 | 5=>5 | 173=>323 | 212=>343 | 51=>325 | 20=>20 | 213=>344 | 46=>304 | 232=>365 | 233=>366 | n=>n,fun | 17=>3 | 18=>8 | 19=>9 | n=>n⟩
def Tryz.aaF:yab Tryz.prog Tryz.WX:=by
 repeat' first | kernel_rfl | (intro w;kernel_rfl) | decide | constructor
open Go.RowKit Go.Sort Go.Lib in
def Tryz.strconv_Itoa (n:Int) (h0: -9223372036854775808<=n) (h1:n<=9223372036854775807) (w:yg) (rF:Lib.TabIs Tryz.prog w "internal/strconv.uint64pow10" .u64 Lib.pow10Tab):
  xv Tryz.prog 229 #[.int .i64 n] w fun e w'=>e= .returned (.string ⟨(Lib.itoa n).toArray⟩)/\∃k os,w'=grow (w.drewN k) os:=Any.strconv_Itoa Tryz.aaF n h0 h1 w rF
def Tryz.Xg:xm:=⟨fun | 145=>208 | 220=>251 | 219=>283 | 217=>307 | 225=>308 | 224=>309 | 267=>310 | 266=>325 | 314=>326 | n=>n,fun | 9=>9 | 4=>4 | 59=>240 | 3=>3 | 5=>5 | 46=>304 | 146=>326 | 51=>325 | n=>n,fun | 1=>2 | n=>n⟩
def Tryz.acA:yar Tryz.prog Tryz.Xg:=by
 repeat' first | kernel_rfl | (intro w;kernel_rfl) | decide | constructor
open Go.RowKit Go.Lib in
def Tryz.strings_Cut (s sep:ByteArray) (m:Int) (w:yg) (hs:s.size<4294967281) (hm:w.cell? ⟨2,0,none⟩=some (.int .i64 m)):
  xv Tryz.prog 208 #[.string s,.string sep] w fun e w'=>e= .returned (.tuple #[.string ⟨(Lib.cut s.data.toList sep.data.toList).1.toArray⟩,.string ⟨(Lib.cut s.data.toList sep.data.toList).2.1.toArray⟩,.bool (Lib.cut s.data.toList sep.data.toList).2.2])/\∃n,w'=w.drewN n:=Any.strings_Cut Tryz.acA s sep m w hs hm
def Tryz.WY:xm:=⟨fun | 145=>208 | 220=>251 | 219=>283 | 217=>307 | 225=>308 | 224=>309 | 267=>310 | 266=>325 | 314=>326 | n=>n,fun | 9=>9 | 4=>4 | 59=>240 | 3=>3 | 5=>5 | 46=>304 | 146=>326 | 51=>325 | n=>n,fun | 1=>2 | n=>n⟩
def Tryz.aaG:yac Tryz.prog Tryz.WY:=by
 repeat' first | kernel_rfl | (intro w;kernel_rfl) | exact fun w h=>Go.Proofs.cell_of_shapedOpen_int (zero:=#[.int .i64 0]) (t:=3) h (of_decide_eq_true (by kernel_rfl)) (by kernel_rfl) rfl (by kernel_rfl) (by kernel_rfl) Tryz.underlying3 | decide | constructor
def Tryz.XP:xm:=⟨fun | 99=>252 | 206=>284 | n=>n,fun | 9=>9 | 4=>4 | 3=>3 | n=>n,fun | n=>n⟩
def Tryz.aeC:yas Tryz.prog Tryz.XP:=by
 repeat' first | kernel_rfl | (intro w;kernel_rfl) | decide | constructor
open Go.RowKit Go.Lib in
def Tryz.strings_HasPrefix (s p:ByteArray) (w:yg):
  xv Tryz.prog 252 #[.string s,.string p] w fun e w'=>e= .returned (.bool (Lib.hasPrefix s.data.toList p.data.toList))/\w'=w:=Any.strings_HasPrefix Tryz.aeC s p w
def Tryz.Xh:xm:=⟨fun | 101=>253 | 208=>285 | 206=>284 | n=>n,fun | 9=>9 | 4=>4 | 3=>3 | n=>n,fun | n=>n⟩
def Tryz.acB:yat Tryz.prog Tryz.Xh:=by
 repeat' first | kernel_rfl | (intro w;kernel_rfl) | decide | constructor
open Go.RowKit Go.Lib in
def Tryz.strings_TrimPrefix (s p:ByteArray) (w:yg):
  xv Tryz.prog 253 #[.string s,.string p] w fun e w'=>e= .returned (.string ⟨(Lib.trimPrefix s.data.toList p.data.toList).toArray⟩)/\w'=w:=Any.strings_TrimPrefix Tryz.acB s p w
def Tryz.Xi:xm:=⟨fun | 264=>239 | n=>n,fun | 53=>267 | 46=>304 | n=>n,fun | n=>n⟩
def Tryz.acC:yau Tryz.prog Tryz.Xi:=by
 repeat' first | kernel_rfl | (intro w;kernel_rfl) | decide | constructor
open Go.RowKit Go.Lib in
def Tryz.bits_Mul64 (x y:Nat) (hx:x<18446744073709551616) (hy:y<18446744073709551616) (w:yg):
  xv Tryz.prog 239 #[.int .u64 x,.int .u64 y] w fun e w'=>e= .returned (.tuple #[.int .u64 ((x*y/18446744073709551616:Nat):Int),.int .u64 ((x*y%18446744073709551616:Nat):Int)])/\w'=w:=Any.bits_Mul64 Tryz.acC x y hx hy w
def Tryz.LQ:xm:=⟨fun | 105=>233 | 212=>274 | 99=>252 | 165=>275 | 166=>234 | 170=>276 | 169=>235 | 263=>303 | 264=>239 | 206=>284 | 240=>277 | 241=>304 | 276=>305 | 277=>324 | n=>n,fun | 9=>9 | 3=>3 | 4=>4 | 20=>20 | 0=>0 | 46=>304 | 109=>305 | 5=>5 | 72=>276 | 76=>279 | 51=>325 | 146=>326 | 53=>267 | 148=>282 | 70=>273 | 37=>274 | 75=>278 | 127=>308 | 164=>328 | 80=>218 | n=>n,fun | n=>n⟩
def Tryz.acD:yav Tryz.prog Tryz.LQ:=by
 repeat' first | kernel_rfl | (intro w;kernel_rfl) | decide | constructor
def Tryz.WE:Builder.Extra Tryz.prog Tryz.LQ:=by
 repeat' first | kernel_rfl | (intro w;kernel_rfl) | decide | constructor
open Go.RowKit Go.Lib in
def Tryz.strings_Repeat (s:ByteArray) (c:Nat) (w:yg) (hc:c<=9223372036854775807) (hlen:s.size*c<=140737488355328):
  xv Tryz.prog 233 #[.string s,.int .i64 c] w fun e w'=>e= .returned (.string ⟨(Lib.repeatL s.data.toList c).toArray⟩)/\Below w.heap.size w w':=Any.strings_Repeat Tryz.acD Tryz.WE s c w hc hlen
def Tryz.WZ:xm:=⟨fun | 25=>278 | n=>n,fun | 22=>267 | n=>n,fun | n=>n⟩
def Tryz.aaH:yad Tryz.prog Tryz.WZ:=by
 repeat' first | kernel_rfl | (intro w;kernel_rfl) | decide | constructor
def Tryz.W0:xm:=⟨fun | 26=>288 | n=>n,fun | 22=>267 | n=>n,fun | n=>n⟩
def Tryz.aaI:yae Tryz.prog Tryz.W0:=by
 repeat' first | kernel_rfl | (intro w;kernel_rfl) | decide | constructor
def Tryz.bits_Add64 (x y c:Nat) (hc:c<=1) (w:yg):
  (callFunc 278 #[.int .u64 x,.int .u64 y,.int .u64 c]).run Tryz.prog w=
   .ok (.value (.tuple #[.int .u64 (((x+y+c)%18446744073709551616:Nat):Int),.int .u64 (((x+y+c)/18446744073709551616:Nat):Int)])) w:=Any7.bits_Add64 Tryz.aaH x y c hc w
def Tryz.bits_Sub64 (x y b:Nat) (hb:b<=1) (w:yg):
  (callFunc 288 #[.int .u64 x,.int .u64 y,.int .u64 b]).run Tryz.prog w=
   .ok (.value (.tuple #[.int .u64 (((x+18446744073709551616-y-b)%18446744073709551616:Nat):Int),.int .u64 ((if x<y+b then 1 else 0:Nat):Int)])) w:=Any7.bits_Sub64 Tryz.aaI x y b hb w
open Go.RowKit in
def Tryz.W1 (s Bi:ByteArray) (w:yg) (hs:s.size<=9223372036854775807) (pM:Bi.size<4294967281) (aeD:∀(j:Nat) b,Bi.data.toList[j]? =some b->b.toNat<128):
  xv Tryz.prog 261 #[.string s,.string Bi] w fun e w'=>e= .returned (.string ⟨(Lib.trimS s.data.toList Bi.data.toList).toArray⟩)/\Below w.heap.size w w':=
 Any.strings_Trim_laid Tryz.acs (by kernel_rfl) s Bi w hs pM aeD
def Tryz.s1_3 (w:yg) (h:w.ShapedOpen Tryz.prog):∃m,w.cell? ⟨2,0,none⟩=some (.int .i64 m):=Tryz.aaG.s1_3 w h
end Go.Proofs
