import Derived.Test.YtflgmingejdfnaaGreatDoorUam
import Derived.Test.YtflgmingejdfnaaGreatDoorUal
set_option linter.all false
set_option maxRecDepth 100000
namespace VE
namespace XC
def T0:List (Tr aH):=[]
def avD {O:bD} (_hO:eP O) (_hp:O.prog=prog) (_hl:O.aU=aU):er O T0:=er.nil
abbrev j (n:Int):AV:= .int .i64 n
abbrev u (n:Nat):AV:= .int .u64 n
def w (l:List Nat):AV:= .aO true l.length (l.map u)
def v0:AV:= .str [49,47,50]
def v1:AV:= .str [48]
def v2:AV:= .aO true 2 [j 2,j 3]
def v3:AV:= .aO true 2 [j 0,j 1]
def v4:AV:= .str [49]
def v5:AV:= .agg [j (-1),.ae,j 2,.ae]
def v6:AV:= .agg [j 1,.ae,j 1,.ae]
def v7:AV:= .agg [j 0,.ae,j 1,.ae]
def v8:AV:= .agg [j 1,.ae,j 2,.ae]
def v9:AV:= .agg [j 1,.ae]
def v10:AV:= .agg [j 0,.ae]
def v11:AV:= .agg [j 2,.ae]
def v12:AV:= .agg [j 10,.ae]
def XD:AV:= .agg [j 3,.ae]
def QZ:AV:= .agg [j (-1),.ae]
def Hx:AV:= .aO true 4 [j 1,.ae,j 2,.ae,j 1,.ae,j 2,.ae,j 0,.ae,j 1,.ae,j 0,.ae,j 1,.ae]
def ER:AV:= .agg [j 0,j 0,j 1,.ae,j 2,.ae,j 0,.ae,j 1,.ae]
def Hy:AV:= .agg [j 2,.ae,j 1,.ae]
def XE:AV:= .agg [j 3,.ae,j 1,.ae]
def Q0:AV:= .aO false 4 [j 1,.ae,j 2,.ae,j 1,.ae,j 2,.ae,j 0,.ae,j 1,.ae,j 0,.ae,j 1,.ae]
def v20:AV:= .aO false 1 [j 0,.ae,j 1,.ae]
def v21:AV:= .aO false 1 [j 1,.ae,j 2,.ae]
def v22:AV:= .agg [j 0,.ae,j 1,.ae,j 0,.ae,j 1,.ae]
def ES:AV:= .agg [j 1,.ae,j 2,.ae,j 0,.ae,j 1,.ae]
def v24:AV:= .aO true 4 [v0,v0,v1,v1]
def v25:AV:= .agg [v1,v1,v1]
def L9:AV:= .aO true 2 [v3,v2]
def v27:AV:= .aO false 1 [Hx]
def v28:AV:= .agg [v1,v1]
def XF:AV:= .aO true 1 [v1,v1]
def v30:AV:= .agg [L9,v1,v4,v4,v1,v1,v0,v1]
def v31:AV:= .aO false 1 [v24]
def Ma:AV:= .aO true 1 [L9,v1,v4,v4,v1,v1,v0,v1]
def agp:aH:=[.o 54160 [v24,v24] (.bool true)]
def agq:aH:=[.m 26853 [.bool false,j 5] (j 0) (.m 26327 [.bool false,j 3] (j 0) (.o 26064 [.bool false,j 2] (j 0))
 (.l))
 (.m 33691 [.bool false,j 31] (j 0) (.o 28694 [.bool false,j 12] (j 0))
 (.l))]
def agr:aH:=[.m 34670 [.aO true 3 [j 0,j 0,j 0]] (j 0) (.m 9480 [.aO true 6 [j 0,j 0,j 0,j 0,j 0,j 0]] (j 0) (.o 3683 [.aO false 1 [j 0]] (j 0))
 (.o 27379 [.aO true 2 [j 0,j 0]] (j 0)))
 (.m 51832 [.aO true 4 [j 0,j 0,j 0,j 0]] (j 0) (.o 44227 [.aO true 5 [j 0,j 0,j 0,j 0,j 0]] (j 0))
 (.l))]
def ags:aH:=[.o 31166 [.aO false 2 [j 2,j 3],v2] (.bool true)]
def agt:aH:=[.o 48449 [v25] (.bool true)]
def agu:aH:=[.o 26453 [v30] (j 4)]
def agv:aH:=[.o 26588 [j 0,j 4] (j 4)]
def k0:List (Nat×aH):=[(29,agp),(31,agq),(33,agr),(59,ags),(68,agt),(80,agu),(81,agv)]
def avE:il prog aU T0 k0=true:=by decide+kernel
def agw:aH:=[.m 26853 [j 2,.bi [j 1000]] (.bool false) (.m 26852 [j 1,.bi [j 1000]] (.bool false) (.o 26851 [j 0,.bi [j 1000]] (.bool false))
 (.l))
 (.o 26854 [j 3,.bi [j 1000]] (.bool false))]
def agx:aH:=[.m 9005 [v5] (.bool false) (.m 5358 [v6] (.bool true) (.o 5357 [v7] (.bool true))
 (.l))
 (.o 9006 [v8] (.bool false))]
def agy:aH:=[.m 28693 [v9] (v4) (.o 28692 [v10] (v1))
 (.o 28694 [v11] (.str [50]))]
def aew:aH:=[.m 1843 [j 2] (v11) (.m 1842 [j 1] (v9) (.o 1841 [j 0] (v10))
 (.l))
 (.m 1851 [j 10] (v12) (.o 1844 [j 3] (XD))
 (.l))]
def k1:List (Nat×aH):=[(94,agw),(98,agx),(99,agy),(117,aew)]
def avF:il prog aU T0 k1=true:=by decide+kernel
def aex:aH:=[.o 38196 [v9,v9] (j 0)]
def aey:aH:=[.m 37934 [v11,QZ] (v9) (.m 37933 [v9,v10] (v9) (.o 37932 [v10,v10] (v10))
 (.l))
 (.m 38458 [v10,v11] (v11) (.o 38195 [v10,v9] (v9))
 (.l))]
def aez:aH:=[.m 26590 [.bool false,j 4] (j 0) (.o 25801 [.bool false,j 1] (j 0))
 (.l)]
def aeA:aH:=[.o 27379 [.aO true 2 [j 0,j 0]] (j 0)]
def aeB:aH:=[.m 2147 [v4] (.bool true) (.o 2146 [v1] (.bool true))
 (.o 2148 [.str [50]] (.bool true))]
def aeC:aH:=[.m 26063 [j 1,j 2] (j 1) (.o 26062 [j 0,j 2] (j 0))
 (.l)]
def aeD:aH:=[.o 28692 [v10] (.aw [.bool false,.ae])]
def aeE:aH:=[.o 1842 [j 1] (u 1)]
def k2:List (Nat×aH):=[(118,aex),(119,aey),(124,aez),(125,aeA),(129,aeB),(134,aeC),(136,aeD),(142,aeE)]
def avG:il prog aU T0 k2=true:=by decide+kernel
def aeF:aH:=[.m 1844 [j 3] (u 3) (.m 1843 [j 2] (u 2) (.o 1841 [j 0] (u 0))
 (.l))
 (.o 1851 [j 10] (u 10)),
 .o 1841 [j (-1)] (u 1)]
def aeG:aH:=[.m 28693 [v9] (j 1) (.o 28692 [v10] (j 0))
 (.o 28694 [v11] (j 1))]
def aeH:aH:=[.m 28693 [v9] (QZ) (.o 28692 [v10] (v10))
 (.l)]
def aeI:aH:=[.o 28692 [v10] (.aw [j 0,.bool true])]
def aeJ:aH:=[.m 28693 [v9] (v9) (.o 28692 [v10] (v10))
 (.o 28694 [v11] (v11))]
def aeK:aH:=[.m 38459 [v9,v11] (.aw [v10,v9]) (.o 38197 [v11,v9] (.aw [v11,v10]))
 (.l)]
def k3:List (Nat×aH):=[(142,aeF),(146,aeG),(147,aeH),(150,aeI),(163,aeJ),(164,aeK)]
def avH:il prog aU T0 k3=true:=by decide+kernel
def aeL:aH:=[.m 38458 [v10,v11] (.aw [v10,v10]) (.m 38196 [v9,v9] (.aw [v9,v10]) (.o 38195 [v10,v9] (.aw [v10,v10]))
 (.l))
 (.o 38460 [v11,v11] (.aw [v9,v10]))]
def aeM:aH:=[.o 1549 [v27] (.fn (.f 490) [] [.bi [v27]])]
def aeN:aH:=[.o 59385 [v31] (.agg [j 1,j 4])]
def aeO:aH:=[.o 24717 [Hx,.bi [j 0]] (v8),
 .o 24717 [Hx,.bi [j 1]] (v8),
 .o 24717 [Hx,.bi [j 2]] (v7),
 .o 24717 [Hx,.bi [j 3]] (v7)]
def k4:List (Nat×aH):=[(164,aeL),(486,aeM),(491,aeN),(495,aeO)]
def avI:il prog aU T0 k4=true:=by decide+kernel
def t1:Tr aH:=(.n 124 aez (.n 81 agv (.n 59 ags (.n 31 agq (.n 29 agp .l .l) (.n 33 agr .l .l)) (.n 80 agu (.n 68 agt .l .l) .l)) (.n 117 aew (.n 98 agx (.n 94 agw .l .l) (.n 99 agy .l .l)) (.n 119 aey (.n 118 aex .l .l) .l))) (.n 147 aeH (.n 136 aeD (.n 129 aeB (.n 125 aeA .l .l) (.n 134 aeC .l .l)) (.n 146 aeG (.n 142 (aeE++aeF) .l .l) .l)) (.n 486 aeM (.n 163 aeJ (.n 150 aeI .l .l) (.n 164 (aeK++aeL) .l .l)) (.n 495 aeO (.n 491 aeN .l .l) .l))))
def T1:List (Tr aH):=t1::T0
def avJ {O:bD} (hO:eP O) (hp:O.prog=prog) (hl:O.aU=aU):er O T1:=by
 have h:=avD hO hp hl;have c0:=jK hO hp hl h avE;have c1:=jK hO hp hl h avF;have c2:=jK hO hp hl h avG;have c3:=jK hO hp hl h avH;have c4:=jK hO hp hl h avI;exact er.cons (aN (c2 2 rfl) (aN (c0 6 rfl) (aN (c0 3 rfl) (aN (c0 1 rfl) (aN (c0 0 rfl) aL aL) (aN (c0 2 rfl) aL aL)) (aN (c0 5 rfl) (aN (c0 4 rfl) aL aL) aL)) (aN (c1 3 rfl) (aN (c1 1 rfl) (aN (c1 0 rfl) aL aL) (aN (c1 2 rfl) aL aL)) (aN (c2 1 rfl) (aN (c2 0 rfl) aL aL) aL))) (aN (c3 2 rfl) (aN (c2 6 rfl) (aN (c2 4 rfl) (aN (c2 3 rfl) aL aL) (aN (c2 5 rfl) aL aL)) (aN (c3 1 rfl) (aN (.dV (c2 7 rfl) (c3 0 rfl)) aL aL) aL)) (aN (c4 1 rfl) (aN (c3 4 rfl) (aN (c3 3 rfl) aL aL) (aN (.dV (c3 5 rfl) (c4 0 rfl)) aL aL)) (aN (c4 3 rfl) (aN (c4 2 rfl) aL aL) aL)))) h
def agz:aH:=[.o 16280 [v31,.aO true 1 [v24]] (.bool true)]
def agA:aH:=[.o 55041 [j 1,j (-999999999),j 999999999] (j 0)]
def agB:aH:=[.o 12396 [j 0,.aO false 1 [j 4],.fn (.f 81) [] []] (j 4)]
def agC:aH:=[.m 9006 [v8] (v0) (.o 5357 [v7] (v1))
 (.l)]
def agD:aH:=[.o 14037 [v25,v7] (.bool true)]
def agE:aH:=[.o 51464 [Ma,.fn (.f 80) [] []] (.cR false 1 1 [j 4])]
def agF:aH:=[.m 2147 [v4] (j 0) (.o 2146 [v1] (j 0))
 (.l)]
def aeP:aH:=[.m 38197 [v11,v9] (v11) (.m 38195 [v10,v9] (v10) (.o 37932 [v10,v10] (v10))
 (.o 38196 [v9,v9] (v9)))
 (.m 40562 [v10,v12] (v10) (.o 38458 [v10,v11] (v10))
 (.o 40563 [v9,v12] (v12)))]
def k5:List (Nat×aH):=[(28,agz),(34,agA),(37,agB),(46,agC),(63,agD),(79,agE),(86,agF),(100,aeP)]
def avK:il prog aU T1 k5=true:=by decide+kernel
def aeQ:aH:=[.m 38195 [QZ,v9] (QZ) (.m 37934 [v11,v10] (v10) (.o 37933 [v9,v10] (v10))
 (.l))
 (.m 38721 [v10,XD] (v10) (.o 38459 [v9,v11] (v11))
 (.l))]
def aeR:aH:=[.o 38195 [v10,v9] (v7)]
def aeS:aH:=[.m 9006 [v8] (v5) (.o 5357 [v7] (v7))
 (.l)]
def aeT:aH:=[.m 5624 [ER,j 2,j 2] (.aw [j 0,j 1]) (.m 5361 [ER,j 1,j 2] (.aw [j 1,j 0]) (.o 5098 [ER,j 0,j 2] (.aw [j 0,j 0]))
 (.l))
 (.o 5887 [ER,j 3,j 2] (.aw [j 1,j 1]))]
def aeU:aH:=[.m 5358 [v6] (j 1) (.o 5357 [v7] (j 0))
 (.o 9006 [v8] (j 1))]
def aeV:aH:=[.o 28692 [v10] (v7)]
def k6:List (Nat×aH):=[(100,aeQ),(101,aeR),(102,aeS),(105,aeT),(108,aeU),(111,aeV)]
def avL:il prog aU T1 k6=true:=by decide+kernel
def aeW:aH:=[.m 28694 [v11] (Hy) (.o 28693 [v9] (v6))
 (.o 28695 [XD] (XE))]
def aeX:aH:=[.m 38459 [v9,v11] (v9) (.o 38458 [v10,v11] (v11))
 (.l)]
def aeY:aH:=[.m 53180 [v2,.fn (.f 94) [] [.bi [j 1000]]] (j (-1)) (.o 52652 [v3,.fn (.f 94) [] [.bi [j 1000]]] (j (-1)))
 (.l)]
def aeZ:aH:=[.m 28694 [v11] (.aw [.bool false,.cR true 1 1 [u 2]]) (.o 28693 [v9] (.aw [.bool false,.cR true 1 1 [u 1]]))
 (.l)]
def ae0:aH:=[.m 38458 [v10,v11] (v10) (.m 38197 [v11,v9] (v11) (.o 38196 [v9,v9] (v9))
 (.l))
 (.o 38460 [v11,v11] (v9))]
def ae1:aH:=[.m 9006 [v8] (v10) (.o 5357 [v7] (v10))
 (.l)]
def ae2:aH:=[.o 28692 [v10] (j 0)]
def k7:List (Nat×aH):=[(111,aeW),(130,aeX),(132,aeY),(136,aeZ),(148,ae0),(149,ae1),(172,ae2)]
def avM:il prog aU T1 k7=true:=by decide+kernel
def ae3:aH:=[.o 26559 [v27,.fn (.f 495) [] [.bi [j 0]]] (.cR false 4 1 [j 1,.ae,j 2,.ae]),
 .o 26559 [v27,.fn (.f 495) [] [.bi [j 1]]] (.cR false 4 1 [j 1,.ae,j 2,.ae]),
 .o 26559 [v27,.fn (.f 495) [] [.bi [j 2]]] (.cR false 4 1 [j 0,.ae,j 1,.ae]),
 .o 26559 [v27,.fn (.f 495) [] [.bi [j 3]]] (.cR false 4 1 [j 0,.ae,j 1,.ae])]
def k8:List (Nat×aH):=[(496,ae3)]
def avN:il prog aU T1 k8=true:=by decide+kernel
def t2:Tr aH:=(.n 105 aeT (.n 79 agE (.n 37 agB (.n 34 agA (.n 28 agz .l .l) .l) (.n 63 agD (.n 46 agC .l .l) .l)) (.n 101 aeR (.n 100 (aeP++aeQ) (.n 86 agF .l .l) .l) (.n 102 aeS .l .l))) (.n 136 aeZ (.n 130 aeX (.n 111 (aeV++aeW) (.n 108 aeU .l .l) .l) (.n 132 aeY .l .l)) (.n 172 ae2 (.n 149 ae1 (.n 148 ae0 .l .l) .l) (.n 496 ae3 .l .l))))
def T2:List (Tr aH):=t2::T1
def avO {O:bD} (hO:eP O) (hp:O.prog=prog) (hl:O.aU=aU):er O T2:=by
 have h:=avJ hO hp hl;have c5:=jK hO hp hl h avK;have c6:=jK hO hp hl h avL;have c7:=jK hO hp hl h avM;have c8:=jK hO hp hl h avN;exact er.cons (aN (c6 3 rfl) (aN (c5 5 rfl) (aN (c5 2 rfl) (aN (c5 1 rfl) (aN (c5 0 rfl) aL aL) aL) (aN (c5 4 rfl) (aN (c5 3 rfl) aL aL) aL)) (aN (c6 1 rfl) (aN (.dV (c5 7 rfl) (c6 0 rfl)) (aN (c5 6 rfl) aL aL) aL) (aN (c6 2 rfl) aL aL))) (aN (c7 3 rfl) (aN (c7 1 rfl) (aN (.dV (c6 5 rfl) (c7 0 rfl)) (aN (c6 4 rfl) aL aL) aL) (aN (c7 2 rfl) aL aL)) (aN (c7 6 rfl) (aN (c7 5 rfl) (aN (c7 4 rfl) aL aL) aL) (aN (c8 0 rfl) aL aL)))) h
def agG:aH:=[.m 36729 [v7,v6] (v7) (.m 36468 [Hy,v7] (v7) (.o 36466 [v7,v7] (v7))
 (.l))
 (.m 37255 [v7,XE] (v7) (.o 36992 [v7,Hy] (v7))
 (.l))]
def agH:aH:=[.o 1842 [j 1] (j 0)]
def agI:aH:=[.o 42376 [v28] (j 0)]
def agJ:aH:=[.m 1843 [j 2] (Hy) (.m 1842 [j 1] (v6) (.o 1841 [j 0] (v7))
 (.l))
 (.o 1844 [j 3] (XE))]
def agK:aH:=[.m 36467 [v6,v7] (v6) (.o 36466 [v7,v7] (v7))
 (.l)]
def agL:aH:=[.m 53180 [v2,.fn (.f 94) [] [.bi [j 1000]]] (.bool false) (.o 52652 [v3,.fn (.f 94) [] [.bi [j 1000]]] (.bool false))
 (.l)]
def ae4:aH:=[.o 38459 [v9,v11] (v8)]
def k9:List (Nat×aH):=[(49,agG),(51,agH),(53,agI),(69,agJ),(74,agK),(95,agL),(101,ae4)]
def avP:il prog aU T2 k9=true:=by decide+kernel
def adn:aH:=[.o 38458 [v10,v11] (v7)]
def ado:aH:=[.o 65228 [Q0] (.cR true 1 4 [v0,v0,v1,v1])]
def adp:aH:=[.o 28692 [v10] (.bool false)]
def adq:aH:=[.o 52660 [v12,j 1] (v12)]
def adr:aH:=[.m 28694 [v11] (j 2) (.o 28693 [v9] (j 1))
 (.l)]
def ads:aH:=[.m 9006 [v8] (.bool true) (.o 5357 [v7] (.bool false))
 (.l)]
def adt:aH:=[.m 25770 [v27,j 2] (v20) (.m 25507 [v27,j 1] (v21) (.o 25244 [v27,j 0] (v21))
 (.l))
 (.o 26033 [v27,j 3] (v20))]
def k10:List (Nat×aH):=[(101,adn),(123,ado),(151,adp),(155,adq),(172,adr),(487,ads),(493,adt)]
def as0:il prog aU T2 k10=true:=by decide+kernel
def t3:Tr aH:=(.n 101 (ae4++adn) (.n 69 agJ (.n 51 agH (.n 49 agG .l .l) (.n 53 agI .l .l)) (.n 95 agL (.n 74 agK .l .l) .l)) (.n 172 adr (.n 151 adp (.n 123 ado .l .l) (.n 155 adq .l .l)) (.n 493 adt (.n 487 ads .l .l) .l)))
def T3:List (Tr aH):=t3::T2
def avQ {O:bD} (hO:eP O) (hp:O.prog=prog) (hl:O.aU=aU):er O T3:=by
 have h:=avO hO hp hl;have c9:=jK hO hp hl h avP;have nI:=jK hO hp hl h as0;exact er.cons (aN (.dV (c9 6 rfl) (nI 0 rfl)) (aN (c9 3 rfl) (aN (c9 1 rfl) (aN (c9 0 rfl) aL aL) (aN (c9 2 rfl) aL aL)) (aN (c9 5 rfl) (aN (c9 4 rfl) aL aL) aL)) (aN (nI 4 rfl) (aN (nI 2 rfl) (aN (nI 1 rfl) aL aL) (aN (nI 3 rfl) aL aL)) (aN (nI 6 rfl) (aN (nI 5 rfl) aL aL) aL))) h
def ae5:aH:=[.o 57092 [L9,j 1000] (j 0)]
def ae6:aH:=[.m 40115 [v8,v7] (v7) (.m 13339 [v6,v8] (v8) (.o 13338 [v7,v8] (v7))
 (.l))
 (.o 40378 [v8,v6] (v8))]
def ae7:aH:=[.m 36467 [v6,v7] (v6) (.o 36466 [v7,v7] (v7))
 (.l)]
def ae8:aH:=[.o 5359 [Hy] (v8)]
def ae9:aH:=[.m 13338 [v7,v8] (v8) (.o 13076 [v6,v5] (v8))
 (.o 40115 [v8,v7] (v8))]
def afa:aH:=[.m 65476 [v22,v6] (v22) (.o 65213 [v22,v7] (v22))
 (.l)]
def adu:aH:=[.m 2147 [v4] (v9) (.o 2146 [v1] (v10))
 (.o 2148 [.str [50]] (v11))]
def C1:List (Nat×aH):=[(32,ae5),(49,ae6),(50,ae7),(73,ae8),(74,ae9),(75,afa),(110,adu)]
def as3:il prog aU T3 C1=true:=by decide+kernel
def adv:aH:=[.o 25238 [v22,v22] (v22)]
def adw:aH:=[.o 1866 [XF,.fn (.f 53) [] []] (.cR false 1 1 [j 0])]
def adx:aH:=[.m 28694 [v11] (.bool false) (.o 28693 [v9] (.bool false))
 (.l)]
def ady:aH:=[.m 34017 [v21,.fn (.f 487) [] []] (j 0) (.o 30368 [v20,.fn (.f 487) [] []] (j (-1)))
 (.l)]
def k12:List (Nat×aH):=[(112,adv),(121,adw),(151,adx),(160,ady)]
def as4:il prog aU T3 k12=true:=by decide+kernel
def t4:Tr aH:=(.n 75 afa (.n 50 ae7 (.n 49 ae6 (.n 32 ae5 .l .l) .l) (.n 74 ae9 (.n 73 ae8 .l .l) .l)) (.n 121 adw (.n 112 adv (.n 110 adu .l .l) .l) (.n 160 ady (.n 151 adx .l .l) .l)))
def T4:List (Tr aH):=t4::T3
def avR {O:bD} (hO:eP O) (hp:O.prog=prog) (hl:O.aU=aU):er O T4:=by
 have h:=avQ hO hp hl;have ET:=jK hO hp hl h as3;have Q1:=jK hO hp hl h as4;exact er.cons (aN (ET 5 rfl) (aN (ET 2 rfl) (aN (ET 1 rfl) (aN (ET 0 rfl) aL aL) aL) (aN (ET 4 rfl) (aN (ET 3 rfl) aL aL) aL)) (aN (Q1 1 rfl) (aN (Q1 0 rfl) (aN (ET 6 rfl) aL aL) aL) (aN (Q1 3 rfl) (aN (Q1 2 rfl) aL aL) aL))) h
def agM:aH:=[.o 32481 [L9] (j 0)]
def afb:aH:=[.m 40115 [v8,v7] (v8) (.o 13339 [v6,v8] (v8))
 (.l)]
def afc:aH:=[.m 2147 [v4] (v6) (.o 2146 [v1] (v7))
 (.o 45023 [v0] (v8))]
def afd:aH:=[.o 36992 [v7,Hy] (v7)]
def afe:aH:=[.o 3604 [ES,v6] (ES)]
def aff:aH:=[.o 42377 [XF] (j 0)]
def afg:aH:=[.o 45023 [v0] (j 0)]
def adz:aH:=[.o 40636 [v7,.aO false 4 [j 0,.ae,j 1,.ae,j 1,.ae,j 2,.ae,j 0,.ae,j 1,.ae,j 0,.ae,j 1,.ae],.fn (.f 74) [] []] (v8)]
def adA:aH:=[.m 9006 [v8] (.bool false) (.o 5357 [v7] (.bool false))
 (.l)]
def adB:aH:=[.o 2110 [v22,ES] (ES)]
def adC:aH:=[.m 34017 [v21,.fn (.f 487) [] []] (.bool true) (.o 30368 [v20,.fn (.f 487) [] []] (.bool false))
 (.l)]
def C2:List (Nat×aH):=[(4,agM),(50,afb),(62,afc),(70,afd),(75,afe),(78,aff),(86,afg),(106,adz),(107,adA),(112,adB),(122,adC)]
def as5:il prog aU T4 C2=true:=by decide+kernel
def t5:Tr aH:=(.n 78 aff (.n 62 afc (.n 50 afb (.n 4 agM .l .l) .l) (.n 75 afe (.n 70 afd .l .l) .l)) (.n 107 adA (.n 106 adz (.n 86 afg .l .l) .l) (.n 122 adC (.n 112 adB .l .l) .l)))
def T5:List (Tr aH):=t5::T4
def avS {O:bD} (hO:eP O) (hp:O.prog=prog) (hl:O.aU=aU):er O T5:=by
 have h:=avR hO hp hl;have sj:=jK hO hp hl h as5;exact er.cons (aN (sj 5 rfl) (aN (sj 2 rfl) (aN (sj 1 rfl) (aN (sj 0 rfl) aL aL) aL) (aN (sj 4 rfl) (aN (sj 3 rfl) aL aL) aL)) (aN (sj 8 rfl) (aN (sj 7 rfl) (aN (sj 6 rfl) aL aL) aL) (aN (sj 10 rfl) (aN (sj 9 rfl) aL aL) aL))) h
def afh:aH:=[.o 19732 [.agg [v0,v1]] (j 0)]
def afi:aH:=[.m 42376 [v28] (v22) (.o 19732 [.agg [v0,v1]] (ES))
 (.l)]
def afj:aH:=[.o 9006 [v8] (.aw [v0,j 0])]
def afk:aH:=[.m 26105 [v4,j 1] (j 0) (.o 25841 [v1,j 0] (j 0))
 (.l)]
def afl:aH:=[.o 57543 [v24] (.cR true 4 4 [j 1,.ae,j 2,.ae,j 1,.ae,j 2,.ae,j 0,.ae,j 1,.ae,j 0,.ae,j 1,.ae])]
def adD:aH:=[.m 33227 [v8,j 2] (.aw [j 0,v8]) (.o 29578 [v7,j 2] (.aw [j 0,v7]))
 (.l)]
def adE:aH:=[.o 32338 [ER] (.agg [j 1,.ae,j 2,.ae,j 1,.ae,j 2,.ae,j 0,.ae,j 1,.ae,j 0,.ae,j 1,.ae])]
def adF:aH:=[.o 24717 [Q0,.fn (.f 107) [] []] (j (-1))]
def adG:aH:=[.o 17032 [v24,.fn (.f 86) [] []] (j 0)]
def k14:List (Nat×aH):=[(53,afh),(54,afi),(57,afj),(61,afk),(88,afl),(103,adD),(104,adE),(160,adF),(494,adG)]
def as6:il prog aU T5 k14=true:=by decide+kernel
def t6:Tr aH:=(.n 88 afl (.n 57 afj (.n 54 afi (.n 53 afh .l .l) .l) (.n 61 afk .l .l)) (.n 160 adF (.n 104 adE (.n 103 adD .l .l) .l) (.n 494 adG .l .l)))
def T6:List (Tr aH):=t6::T5
def avT {O:bD} (hO:eP O) (hp:O.prog=prog) (hl:O.aU=aU):er O T6:=by
 have h:=avS hO hp hl;have Bo:=jK hO hp hl h as6;exact er.cons (aN (Bo 4 rfl) (aN (Bo 2 rfl) (aN (Bo 1 rfl) (aN (Bo 0 rfl) aL aL) aL) (aN (Bo 3 rfl) aL aL)) (aN (Bo 7 rfl) (aN (Bo 6 rfl) (aN (Bo 5 rfl) aL aL) aL) (aN (Bo 8 rfl) aL aL))) h
def afm:aH:=[.o 61974 [ES,j 2] (ER)]
def afn:aH:=[.o 55270 [ER,L9] (v8)]
def afo:aH:=[.o 48449 [v25] (j 0)]
def afp:aH:=[.o 12110 [v25,v7,v28] (v22)]
def adH:aH:=[.o 26453 [v30] (j 0)]
def adI:aH:=[.o 24717 [Q0,.fn (.f 107) [] []] (.bool false)]
def adJ:aH:=[.o 18874 [v31,.fn (.f 88) [] []] (.cR false 1 1 [Hx])]
def adK:aH:=[.o 16769 [v24,j 4] (j 0)]
def k15:List (Nat×aH):=[(55,afm),(56,afn),(60,afo),(64,afp),(115,adH),(122,adI),(489,adJ),(492,adK)]
def as7:il prog aU T6 k15=true:=by decide+kernel
def t7:Tr aH:=(.n 115 adH (.n 60 afo (.n 56 afn (.n 55 afm .l .l) .l) (.n 64 afp .l .l)) (.n 489 adJ (.n 122 adI .l .l) (.n 492 adK .l .l)))
def T7:List (Tr aH):=t7::T6
def avU {O:bD} (hO:eP O) (hp:O.prog=prog) (hl:O.aU=aU):er O T7:=by
 have h:=avT hO hp hl;have C3:=jK hO hp hl h as7;exact er.cons (aN (C3 4 rfl) (aN (C3 2 rfl) (aN (C3 1 rfl) (aN (C3 0 rfl) aL aL) aL) (aN (C3 3 rfl) aL aL)) (aN (C3 6 rfl) (aN (C3 5 rfl) aL aL) (aN (C3 7 rfl) aL aL))) h
def afq:aH:=[.o 47468 [v30,v25,v28,j 1] (j 0)]
def afr:aH:=[.o 7939 [.aO true 1 [v1,v1,v1],.fn (.f 60) [] []] (.cR false 1 1 [j 0])]
def afs:aH:=[.o 65228 [Q0] (.aw [v24,j 0])]
def adL:aH:=[.o 47468 [v30,v25,v28,j 1] (ES)]
def adM:aH:=[.o 51464 [Ma,.fn (.f 115) [] []] (.cR false 1 1 [j 0])]
def adN:aH:=[.o 59385 [v31] (v27)]
def adO:aH:=[.o 60064 [v31,.agg [j 64,j 16]] (j 0)]
def k16:List (Nat×aH):=[(66,afq),(77,afr),(83,afs),(116,adL),(120,adM),(485,adN),(488,adO)]
def as8:il prog aU T7 k16=true:=by decide+kernel
def t8:Tr aH:=(.n 116 adL (.n 77 afr (.n 66 afq .l .l) (.n 83 afs .l .l)) (.n 485 adN (.n 120 adM .l .l) (.n 488 adO .l .l)))
def T8:List (Tr aH):=t8::T7
def avV {O:bD} (hO:eP O) (hp:O.prog=prog) (hl:O.aU=aU):er O T8:=by
 have h:=avU hO hp hl;have qS:=jK hO hp hl h as8;exact er.cons (aN (qS 3 rfl) (aN (qS 1 rfl) (aN (qS 0 rfl) aL aL) (aN (qS 2 rfl) aL aL)) (aN (qS 5 rfl) (aN (qS 4 rfl) aL aL) (aN (qS 6 rfl) aL aL))) h
def aft:aH:=[.o 47468 [v30,v25,v28,j 1] (v8)]
def afu:aH:=[.o 26454 [Ma] (j 0)]
def afv:aH:=[.o 2906 [Ma,v25,v28,j 1,j 4] (.cR false 4 4 [j 1,.ae,j 2,.ae,j 1,.ae,j 2,.ae,j 0,.ae,j 1,.ae,j 0,.ae,j 1,.ae])]
def adP:aH:=[.o 59385 [v31] (j 0)]
def k17:List (Nat×aH):=[(67,aft),(76,afu),(82,afv),(484,adP)]
def as9:il prog aU T8 k17=true:=by decide+kernel
def t9:Tr aH:=(.n 82 afv (.n 76 afu (.n 67 aft .l .l) .l) (.n 484 adP .l .l))
def T9:List (Tr aH):=t9::T8
def avW {O:bD} (hO:eP O) (hp:O.prog=prog) (hl:O.aU=aU):er O T9:=by
 have h:=avV hO hp hl;have Q2:=jK hO hp hl h as9;exact er.cons (aN (Q2 2 rfl) (aN (Q2 1 rfl) (aN (Q2 0 rfl) aL aL) aL) (aN (Q2 3 rfl) aL aL)) h
def afw:aH:=[.o 47468 [v30,v25,v28,j 1] (.aw [v0,j 0])]
def afx:aH:=[.o 51380 [Ma,.aO true 1 [v1,v1,v1],XF,j 1] (.aw [.cR false 1 1 [v24],j 0])]
def adQ:aH:=[.o 59385 [v31] (.aw [.cR false 1 2 [j 2,j 3],j 0])]
def k18:List (Nat×aH):=[(24,afw),(26,afx),(483,adQ)]
def ata:il prog aU T9 k18=true:=by decide+kernel
def t10:Tr aH:=(.n 26 afx (.n 24 afw .l .l) (.n 483 adQ .l .l))
def XG:List (Tr aH):=t10::T9
def atb {O:bD} (hO:eP O) (hp:O.prog=prog) (hl:O.aU=aU):er O XG:=by
 have h:=avW hO hp hl;have C0:=jK hO hp hl h ata;exact er.cons (aN (C0 1 rfl) (aN (C0 0 rfl) aL aL) (aN (C0 2 rfl) aL aL)) h
def adR:aH:=[.o 7 [] (.bool true)]
def k19:List (Nat×aH):=[(481,adR)]
def atc:il prog aU XG k19=true:=by decide+kernel
def t11:Tr aH:=(.n 481 adR .l .l)
def T11:List (Tr aH):=t11::XG
def atd {O:bD} (hO:eP O) (hp:O.prog=prog) (hl:O.aU=aU):er O T11:=by
 have h:=atb hO hp hl;have c19:=jK hO hp hl h atc;exact er.cons (aN (c19 0 rfl) aL aL) h
def holds {O:bD} (hO:eP O) (hp:O.prog=prog) (hl:O.aU=aU):eX O 481 [] (.bool true):=Tr.DA (atd hO hp hl t11 (.head _)) (i:=481) rfl _ _ ⟨_,.head _,.inl rfl⟩
end XC
end VE
