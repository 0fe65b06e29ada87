import Derived.Test.YtlkgmaenobiooaaGreatDoorTav
import Derived.Test.YtlkgmaenobiooaaGreatDoorTbb
import Derived.Test.YtlkgmaenobiooaaGreatDoorTaq
import Derived.Test.YtlkgmaenobiooaaGreatDoorTau
set_option linter.all false
set_option maxRecDepth 100000
namespace VE
section
open Go (IntKind)
abbrev Km:List Ty:=[Ae,Ae,.cat (.int .u8) (.cat (.int .u8) .nil)]
def P7 {p:Int} (hp:(Go.Lit.int .u8 p).wf=true):0<=p/\p<256:=by
 simp only [Go.Lit.wf,Bool.and_eq_true,xt] at hp;have h1:IntKind.u8.min=0:=rfl;have h2:IntKind.u8.max=255:=rfl;rw [h1,h2] at hp;omega
def aqd {P:aJ} {L:Lib} (h:Ux P L) {ls:List (List AV)} (hs:hJ iU Km ls):ai P L 450 (oz Km ls) (.bool true):=by
 obtain ⟨_,_,_,rfl,h1,h2,h3⟩:=PC hs;obtain ⟨a,b,rfl,la,lb⟩:=BN h1;obtain ⟨c,d,rfl,lc,ld⟩:=BN h2;obtain ⟨_,_,rfl,⟨p,rfl,hp⟩,_,_,rfl,⟨q,rfl,hq⟩,rfl⟩:=h3;exact aqo h la lb lc ld (P7 hp).1 (P7 hp).2 (P7 hq).1 (P7 hq).2
end
section
namespace J2
open Go Go.Proofs
def T:List (Tr aq):=[.n 179 [.o 7 [] (.bool true)] .l .l]
def L0:VE.Lib:=Ei VE.aE 99 BY
def L1:VE.Lib:=CO L0 T 1000
def nu:Nu VE.prog VE.aE:=by
 repeat' (first | rfl | constructor)
def lw:Ux VE.prog L1:=by
 repeat' (first | rfl | constructor)
section
variable {W:World} {m:Int} (hm:W.cell? ⟨1,0,none⟩=some (.int .i64 m)) (ht:Go.Lib.TabIs Tryz.prog W "internal/strconv.uint64pow10" .u64 Go.Lib.pow10Tab)
include hm ht
def linked:ep ((J1.O W).oh L1):=by
 have hO:=J1.KF hm ht;have hs:=Kj hO nu rfl rfl rfl ⟨rfl,rfl,rfl⟩ (fn:=Tryz.f193) (c:=p8) Tryz.func193 rfl rfl trivial Ks;have hT:dB (J1.O W) T:=dB.cons (Tr.il (jg.one (ml.holds hO rfl rfl)) Tr.fD Tr.fD) dB.nil;exact Gn (Kk hO hs) hT 1000
def law {ls:List (List AV)} (hs:hJ iU Km ls):dF (J1.O W) 450 (oz Km ls) (.bool true):=by
 obtain ⟨k,hk⟩:=GN (aqd lw hs);exact sound (linked hm ht) hk
end
end J2
end
end VE
