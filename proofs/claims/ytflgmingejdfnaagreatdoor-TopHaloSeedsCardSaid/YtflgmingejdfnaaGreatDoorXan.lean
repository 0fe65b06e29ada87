import Derived.Test.YtflgmingejdfnaaGreatDoorXam
import Derived.Test.YtflgmingejdfnaaGreatDoorXal
set_option linter.all false
set_option maxRecDepth 100000
namespace VE
namespace Vz
def T0:List (Tr au):=[]
def aha {O:aZ} (_hO:dX O) (_hp:O.prog=prog) (_hl:O.aI=aI):cZ O T0:=cZ.nil
abbrev j (n:Int):AV:= .int .i64 n
abbrev u (n:Nat):AV:= .int .u64 n
def w (l:List Nat):AV:= .aC true l.length (l.map u)
def v0:AV:= .str [49,47,50]
def v1:AV:= .str [48]
def v2:AV:= .aC true 2 [j 2,j 3]
def v3:AV:= .aC true 2 [j 0,j 1]
def v4:AV:= .str [49]
def v5:AV:= .agg [j (-1),.ab,j 2,.ab]
def v6:AV:= .agg [j 1,.ab,j 1,.ab]
def v7:AV:= .agg [j 0,.ab,j 1,.ab]
def v8:AV:= .agg [j 1,.ab,j 2,.ab]
def v9:AV:= .agg [j 1,.ab]
def v10:AV:= .agg [j 0,.ab]
def v11:AV:= .agg [j 2,.ab]
def v12:AV:= .agg [j 10,.ab]
def KH:AV:= .agg [j 3,.ab]
def Gj:AV:= .agg [j (-1),.ab]
def Ae:AV:= .aC true 4 [j 1,.ab,j 2,.ab,j 1,.ab,j 2,.ab,j 0,.ab,j 1,.ab,j 0,.ab,j 1,.ab]
def r6:AV:= .agg [j 0,j 0,j 1,.ab,j 2,.ab,j 0,.ab,j 1,.ab]
def Af:AV:= .agg [j 2,.ab,j 1,.ab]
def KI:AV:= .agg [j 3,.ab,j 1,.ab]
def Gk:AV:= .aC false 4 [j 1,.ab,j 2,.ab,j 1,.ab,j 2,.ab,j 0,.ab,j 1,.ab,j 0,.ab,j 1,.ab]
def v20:AV:= .aC false 1 [j 0,.ab,j 1,.ab]
def v21:AV:= .aC false 1 [j 1,.ab,j 2,.ab]
def v22:AV:= .agg [j 0,.ab,j 1,.ab,j 0,.ab,j 1,.ab]
def r7:AV:= .agg [j 1,.ab,j 2,.ab,j 0,.ab,j 1,.ab]
def v24:AV:= .aC true 4 [v0,v0,v1,v1]
def v25:AV:= .agg [v1,v1,v1]
def CU:AV:= .aC true 2 [v3,v2]
def v27:AV:= .aC false 1 [Ae]
def v28:AV:= .agg [v1,v1]
def KJ:AV:= .aC true 1 [v1,v1]
def v30:AV:= .agg [CU,v1,v4,v4,v1,v1,v0,v1]
def v31:AV:= .aC false 1 [v24]
def CV:AV:= .aC true 1 [CU,v1,v4,v4,v1,v1,v0,v1]
def R1:au:=[.o 54160 [v24,v24] (.bool true)]
def R2:au:=[.m 26853 [.bool false,j 5] (j 0) (.m 26327 [.bool false,j 3] (j 0) (.o 26064 [.bool false,j 2] (j 0))
 (.l))
 (.m 33691 [.bool false,j 31] (j 0) (.o 28694 [.bool false,j 12] (j 0))
 (.l))]
def R3:au:=[.m 34670 [.aC true 3 [j 0,j 0,j 0]] (j 0) (.m 9480 [.aC true 6 [j 0,j 0,j 0,j 0,j 0,j 0]] (j 0) (.o 3683 [.aC false 1 [j 0]] (j 0))
 (.o 27379 [.aC true 2 [j 0,j 0]] (j 0)))
 (.m 51832 [.aC true 4 [j 0,j 0,j 0,j 0]] (j 0) (.o 44227 [.aC true 5 [j 0,j 0,j 0,j 0,j 0]] (j 0))
 (.l))]
def R4:au:=[.o 31166 [.aC false 2 [j 2,j 3],v2] (.bool true)]
def R5:au:=[.o 48449 [v25] (.bool true)]
def R6:au:=[.o 26453 [v30] (j 4)]
def R7:au:=[.o 26588 [j 0,j 4] (j 4)]
def k0:List (Nat×au):=[(29,R1),(31,R2),(33,R3),(59,R4),(68,R5),(80,R6),(81,R7)]
def ahb:eP prog aI T0 k0=true:=by decide+kernel
def R8:au:=[.m 26853 [j 2,.aO [j 1000]] (.bool false) (.m 26852 [j 1,.aO [j 1000]] (.bool false) (.o 26851 [j 0,.aO [j 1000]] (.bool false))
 (.l))
 (.o 26854 [j 3,.aO [j 1000]] (.bool false))]
def R9:au:=[.m 9005 [v5] (.bool false) (.m 5358 [v6] (.bool true) (.o 5357 [v7] (.bool true))
 (.l))
 (.o 9006 [v8] (.bool false))]
def Sa:au:=[.m 28693 [v9] (v4) (.o 28692 [v10] (v1))
 (.o 28694 [v11] (.str [50]))]
def P8:au:=[.m 1843 [j 2] (v11) (.m 1842 [j 1] (v9) (.o 1841 [j 0] (v10))
 (.l))
 (.m 1851 [j 10] (v12) (.o 1844 [j 3] (KH))
 (.l))]
def k1:List (Nat×au):=[(94,R8),(98,R9),(99,Sa),(117,P8)]
def ahc:eP prog aI T0 k1=true:=by decide+kernel
def P9:au:=[.o 38196 [v9,v9] (j 0)]
def Qa:au:=[.m 37934 [v11,Gj] (v9) (.m 37933 [v9,v10] (v9) (.o 37932 [v10,v10] (v10))
 (.l))
 (.m 38458 [v10,v11] (v11) (.o 38195 [v10,v9] (v9))
 (.l))]
def Qb:au:=[.m 26590 [.bool false,j 4] (j 0) (.o 25801 [.bool false,j 1] (j 0))
 (.l)]
def Qc:au:=[.o 27379 [.aC true 2 [j 0,j 0]] (j 0)]
def Qd:au:=[.m 2147 [v4] (.bool true) (.o 2146 [v1] (.bool true))
 (.o 2148 [.str [50]] (.bool true))]
def Qe:au:=[.m 26063 [j 1,j 2] (j 1) (.o 26062 [j 0,j 2] (j 0))
 (.l)]
def Qf:au:=[.o 28692 [v10] (.ay [.bool false,.ab])]
def Qg:au:=[.o 1842 [j 1] (u 1)]
def k2:List (Nat×au):=[(118,P9),(119,Qa),(124,Qb),(125,Qc),(129,Qd),(134,Qe),(136,Qf),(142,Qg)]
def ahd:eP prog aI T0 k2=true:=by decide+kernel
def Qh:au:=[.m 1844 [j 3] (u 3) (.m 1843 [j 2] (u 2) (.o 1841 [j 0] (u 0))
 (.l))
 (.o 1851 [j 10] (u 10)),
 .o 1841 [j (-1)] (u 1)]
def Qi:au:=[.m 28693 [v9] (j 1) (.o 28692 [v10] (j 0))
 (.o 28694 [v11] (j 1))]
def Qj:au:=[.m 28693 [v9] (Gj) (.o 28692 [v10] (v10))
 (.l)]
def Qk:au:=[.o 28692 [v10] (.ay [j 0,.bool true])]
def Ql:au:=[.m 28693 [v9] (v9) (.o 28692 [v10] (v10))
 (.o 28694 [v11] (v11))]
def Qm:au:=[.m 38459 [v9,v11] (.ay [v10,v9]) (.o 38197 [v11,v9] (.ay [v11,v10]))
 (.l)]
def k3:List (Nat×au):=[(142,Qh),(146,Qi),(147,Qj),(150,Qk),(163,Ql),(164,Qm)]
def ahe:eP prog aI T0 k3=true:=by decide+kernel
def Qn:au:=[.m 38458 [v10,v11] (.ay [v10,v10]) (.m 38196 [v9,v9] (.ay [v9,v10]) (.o 38195 [v10,v9] (.ay [v10,v10]))
 (.l))
 (.o 38460 [v11,v11] (.ay [v9,v10]))]
def Qo:au:=[.o 1549 [v27] (.fn (.f 490) [] [.aO [v27]])]
def Qp:au:=[.o 59385 [v31] (.agg [j 1,j 4])]
def Qq:au:=[.o 24717 [Ae,.aO [j 0]] (v8),
 .o 24717 [Ae,.aO [j 1]] (v8),
 .o 24717 [Ae,.aO [j 2]] (v7),
 .o 24717 [Ae,.aO [j 3]] (v7)]
def k4:List (Nat×au):=[(164,Qn),(486,Qo),(491,Qp),(495,Qq)]
def ahf:eP prog aI T0 k4=true:=by decide+kernel
def t1:Tr au:=(.n 124 Qb (.n 81 R7 (.n 59 R4 (.n 31 R2 (.n 29 R1 .l .l) (.n 33 R3 .l .l)) (.n 80 R6 (.n 68 R5 .l .l) .l)) (.n 117 P8 (.n 98 R9 (.n 94 R8 .l .l) (.n 99 Sa .l .l)) (.n 119 Qa (.n 118 P9 .l .l) .l))) (.n 147 Qj (.n 136 Qf (.n 129 Qd (.n 125 Qc .l .l) (.n 134 Qe .l .l)) (.n 146 Qi (.n 142 (Qg++Qh) .l .l) .l)) (.n 486 Qo (.n 163 Ql (.n 150 Qk .l .l) (.n 164 (Qm++Qn) .l .l)) (.n 495 Qq (.n 491 Qp .l .l) .l))))
def T1:List (Tr au):=t1::T0
def ahg {O:aZ} (hO:dX O) (hp:O.prog=prog) (hl:O.aI=aI):cZ O T1:=by
 have h:=aha hO hp hl;have c0:=fJ hO hp hl h ahb;have c1:=fJ hO hp hl h ahc;have c2:=fJ hO hp hl h ahd;have c3:=fJ hO hp hl h ahe;have c4:=fJ hO hp hl h ahf;exact cZ.cons (aN (c2 2 rfl) (aN (c0 6 rfl) (aN (c0 3 rfl) (aN (c0 1 rfl) (aN (c0 0 rfl) aL aL) (aN (c0 2 rfl) aL aL)) (aN (c0 5 rfl) (aN (c0 4 rfl) aL aL) aL)) (aN (c1 3 rfl) (aN (c1 1 rfl) (aN (c1 0 rfl) aL aL) (aN (c1 2 rfl) aL aL)) (aN (c2 1 rfl) (aN (c2 0 rfl) aL aL) aL))) (aN (c3 2 rfl) (aN (c2 6 rfl) (aN (c2 4 rfl) (aN (c2 3 rfl) aL aL) (aN (c2 5 rfl) aL aL)) (aN (c3 1 rfl) (aN (.cC (c2 7 rfl) (c3 0 rfl)) aL aL) aL)) (aN (c4 1 rfl) (aN (c3 4 rfl) (aN (c3 3 rfl) aL aL) (aN (.cC (c3 5 rfl) (c4 0 rfl)) aL aL)) (aN (c4 3 rfl) (aN (c4 2 rfl) aL aL) aL)))) h
def Sb:au:=[.o 16280 [v31,.aC true 1 [v24]] (.bool true)]
def Sc:au:=[.o 55041 [j 1,j (-999999999),j 999999999] (j 0)]
def Sd:au:=[.o 12396 [j 0,.aC false 1 [j 4],.fn (.f 81) [] []] (j 4)]
def Se:au:=[.m 9006 [v8] (v0) (.o 5357 [v7] (v1))
 (.l)]
def Sf:au:=[.o 14037 [v25,v7] (.bool true)]
def Sg:au:=[.o 51464 [CV,.fn (.f 80) [] []] (.bS false 1 1 [j 4])]
def Sh:au:=[.m 2147 [v4] (j 0) (.o 2146 [v1] (j 0))
 (.l)]
def Qr:au:=[.m 38197 [v11,v9] (v11) (.m 38195 [v10,v9] (v10) (.o 37932 [v10,v10] (v10))
 (.o 38196 [v9,v9] (v9)))
 (.m 40562 [v10,v12] (v10) (.o 38458 [v10,v11] (v10))
 (.o 40563 [v9,v12] (v12)))]
def k5:List (Nat×au):=[(28,Sb),(34,Sc),(37,Sd),(46,Se),(63,Sf),(79,Sg),(86,Sh),(100,Qr)]
def ahh:eP prog aI T1 k5=true:=by decide+kernel
def Qs:au:=[.m 38195 [Gj,v9] (Gj) (.m 37934 [v11,v10] (v10) (.o 37933 [v9,v10] (v10))
 (.l))
 (.m 38721 [v10,KH] (v10) (.o 38459 [v9,v11] (v11))
 (.l))]
def Qt:au:=[.o 38195 [v10,v9] (v7)]
def Qu:au:=[.m 9006 [v8] (v5) (.o 5357 [v7] (v7))
 (.l)]
def Qv:au:=[.m 5624 [r6,j 2,j 2] (.ay [j 0,j 1]) (.m 5361 [r6,j 1,j 2] (.ay [j 1,j 0]) (.o 5098 [r6,j 0,j 2] (.ay [j 0,j 0]))
 (.l))
 (.o 5887 [r6,j 3,j 2] (.ay [j 1,j 1]))]
def Qw:au:=[.m 5358 [v6] (j 1) (.o 5357 [v7] (j 0))
 (.o 9006 [v8] (j 1))]
def Qx:au:=[.o 28692 [v10] (v7)]
def k6:List (Nat×au):=[(100,Qs),(101,Qt),(102,Qu),(105,Qv),(108,Qw),(111,Qx)]
def ahi:eP prog aI T1 k6=true:=by decide+kernel
def Qy:au:=[.m 28694 [v11] (Af) (.o 28693 [v9] (v6))
 (.o 28695 [KH] (KI))]
def Qz:au:=[.m 38459 [v9,v11] (v9) (.o 38458 [v10,v11] (v11))
 (.l)]
def QA:au:=[.m 53180 [v2,.fn (.f 94) [] [.aO [j 1000]]] (j (-1)) (.o 52652 [v3,.fn (.f 94) [] [.aO [j 1000]]] (j (-1)))
 (.l)]
def QB:au:=[.m 28694 [v11] (.ay [.bool false,.bS true 1 1 [u 2]]) (.o 28693 [v9] (.ay [.bool false,.bS true 1 1 [u 1]]))
 (.l)]
def QC:au:=[.m 38458 [v10,v11] (v10) (.m 38197 [v11,v9] (v11) (.o 38196 [v9,v9] (v9))
 (.l))
 (.o 38460 [v11,v11] (v9))]
def QD:au:=[.m 9006 [v8] (v10) (.o 5357 [v7] (v10))
 (.l)]
def QE:au:=[.o 28692 [v10] (j 0)]
def k7:List (Nat×au):=[(111,Qy),(130,Qz),(132,QA),(136,QB),(148,QC),(149,QD),(172,QE)]
def ahj:eP prog aI T1 k7=true:=by decide+kernel
def QF:au:=[.o 26559 [v27,.fn (.f 495) [] [.aO [j 0]]] (.bS false 4 1 [j 1,.ab,j 2,.ab]),
 .o 26559 [v27,.fn (.f 495) [] [.aO [j 1]]] (.bS false 4 1 [j 1,.ab,j 2,.ab]),
 .o 26559 [v27,.fn (.f 495) [] [.aO [j 2]]] (.bS false 4 1 [j 0,.ab,j 1,.ab]),
 .o 26559 [v27,.fn (.f 495) [] [.aO [j 3]]] (.bS false 4 1 [j 0,.ab,j 1,.ab])]
def k8:List (Nat×au):=[(496,QF)]
def ahk:eP prog aI T1 k8=true:=by decide+kernel
def t2:Tr au:=(.n 105 Qv (.n 79 Sg (.n 37 Sd (.n 34 Sc (.n 28 Sb .l .l) .l) (.n 63 Sf (.n 46 Se .l .l) .l)) (.n 101 Qt (.n 100 (Qr++Qs) (.n 86 Sh .l .l) .l) (.n 102 Qu .l .l))) (.n 136 QB (.n 130 Qz (.n 111 (Qx++Qy) (.n 108 Qw .l .l) .l) (.n 132 QA .l .l)) (.n 172 QE (.n 149 QD (.n 148 QC .l .l) .l) (.n 496 QF .l .l))))
def T2:List (Tr au):=t2::T1
def ahl {O:aZ} (hO:dX O) (hp:O.prog=prog) (hl:O.aI=aI):cZ O T2:=by
 have h:=ahg hO hp hl;have c5:=fJ hO hp hl h ahh;have c6:=fJ hO hp hl h ahi;have c7:=fJ hO hp hl h ahj;have c8:=fJ hO hp hl h ahk;exact cZ.cons (aN (c6 3 rfl) (aN (c5 5 rfl) (aN (c5 2 rfl) (aN (c5 1 rfl) (aN (c5 0 rfl) aL aL) aL) (aN (c5 4 rfl) (aN (c5 3 rfl) aL aL) aL)) (aN (c6 1 rfl) (aN (.cC (c5 7 rfl) (c6 0 rfl)) (aN (c5 6 rfl) aL aL) aL) (aN (c6 2 rfl) aL aL))) (aN (c7 3 rfl) (aN (c7 1 rfl) (aN (.cC (c6 5 rfl) (c7 0 rfl)) (aN (c6 4 rfl) aL aL) aL) (aN (c7 2 rfl) aL aL)) (aN (c7 6 rfl) (aN (c7 5 rfl) (aN (c7 4 rfl) aL aL) aL) (aN (c8 0 rfl) aL aL)))) h
def Si:au:=[.m 36729 [v7,v6] (v7) (.m 36468 [Af,v7] (v7) (.o 36466 [v7,v7] (v7))
 (.l))
 (.m 37255 [v7,KI] (v7) (.o 36992 [v7,Af] (v7))
 (.l))]
def Sj:au:=[.o 1842 [j 1] (j 0)]
def Sk:au:=[.o 42376 [v28] (j 0)]
def Sl:au:=[.m 1843 [j 2] (Af) (.m 1842 [j 1] (v6) (.o 1841 [j 0] (v7))
 (.l))
 (.o 1844 [j 3] (KI))]
def Sm:au:=[.m 36467 [v6,v7] (v6) (.o 36466 [v7,v7] (v7))
 (.l)]
def Sn:au:=[.m 53180 [v2,.fn (.f 94) [] [.aO [j 1000]]] (.bool false) (.o 52652 [v3,.fn (.f 94) [] [.aO [j 1000]]] (.bool false))
 (.l)]
def QG:au:=[.o 38459 [v9,v11] (v8)]
def k9:List (Nat×au):=[(49,Si),(51,Sj),(53,Sk),(69,Sl),(74,Sm),(95,Sn),(101,QG)]
def ahm:eP prog aI T2 k9=true:=by decide+kernel
def O8:au:=[.o 38458 [v10,v11] (v7)]
def O9:au:=[.o 65228 [Gk] (.bS true 1 4 [v0,v0,v1,v1])]
def Pa:au:=[.o 28692 [v10] (.bool false)]
def Pb:au:=[.o 52660 [v12,j 1] (v12)]
def Pc:au:=[.m 28694 [v11] (j 2) (.o 28693 [v9] (j 1))
 (.l)]
def Pd:au:=[.m 9006 [v8] (.bool true) (.o 5357 [v7] (.bool false))
 (.l)]
def Pe:au:=[.m 25770 [v27,j 2] (v20) (.m 25507 [v27,j 1] (v21) (.o 25244 [v27,j 0] (v21))
 (.l))
 (.o 26033 [v27,j 3] (v20))]
def k10:List (Nat×au):=[(101,O8),(123,O9),(151,Pa),(155,Pb),(172,Pc),(487,Pd),(493,Pe)]
def ae3:eP prog aI T2 k10=true:=by decide+kernel
def t3:Tr au:=(.n 101 (QG++O8) (.n 69 Sl (.n 51 Sj (.n 49 Si .l .l) (.n 53 Sk .l .l)) (.n 95 Sn (.n 74 Sm .l .l) .l)) (.n 172 Pc (.n 151 Pa (.n 123 O9 .l .l) (.n 155 Pb .l .l)) (.n 493 Pe (.n 487 Pd .l .l) .l)))
def T3:List (Tr au):=t3::T2
def ahn {O:aZ} (hO:dX O) (hp:O.prog=prog) (hl:O.aI=aI):cZ O T3:=by
 have h:=ahl hO hp hl;have c9:=fJ hO hp hl h ahm;have iY:=fJ hO hp hl h ae3;exact cZ.cons (aN (.cC (c9 6 rfl) (iY 0 rfl)) (aN (c9 3 rfl) (aN (c9 1 rfl) (aN (c9 0 rfl) aL aL) (aN (c9 2 rfl) aL aL)) (aN (c9 5 rfl) (aN (c9 4 rfl) aL aL) aL)) (aN (iY 4 rfl) (aN (iY 2 rfl) (aN (iY 1 rfl) aL aL) (aN (iY 3 rfl) aL aL)) (aN (iY 6 rfl) (aN (iY 5 rfl) aL aL) aL))) h
def QH:au:=[.o 57092 [CU,j 1000] (j 0)]
def QI:au:=[.m 40115 [v8,v7] (v7) (.m 13339 [v6,v8] (v8) (.o 13338 [v7,v8] (v7))
 (.l))
 (.o 40378 [v8,v6] (v8))]
def QJ:au:=[.m 36467 [v6,v7] (v6) (.o 36466 [v7,v7] (v7))
 (.l)]
def QK:au:=[.o 5359 [Af] (v8)]
def QM:au:=[.m 13338 [v7,v8] (v8) (.o 13076 [v6,v5] (v8))
 (.o 40115 [v8,v7] (v8))]
def QN:au:=[.m 65476 [v22,v6] (v22) (.o 65213 [v22,v7] (v22))
 (.l)]
def Pf:au:=[.m 2147 [v4] (v9) (.o 2146 [v1] (v10))
 (.o 2148 [.str [50]] (v11))]
def k11:List (Nat×au):=[(32,QH),(49,QI),(50,QJ),(73,QK),(74,QM),(75,QN),(110,Pf)]
def ae4:eP prog aI T3 k11=true:=by decide+kernel
def Pg:au:=[.o 25238 [v22,v22] (v22)]
def Ph:au:=[.o 1866 [KJ,.fn (.f 53) [] []] (.bS false 1 1 [j 0])]
def Pj:au:=[.m 28694 [v11] (.bool false) (.o 28693 [v9] (.bool false))
 (.l)]
def Pk:au:=[.m 34017 [v21,.fn (.f 487) [] []] (j 0) (.o 30368 [v20,.fn (.f 487) [] []] (j (-1)))
 (.l)]
def k12:List (Nat×au):=[(112,Pg),(121,Ph),(151,Pj),(160,Pk)]
def ae5:eP prog aI T3 k12=true:=by decide+kernel
def t4:Tr au:=(.n 75 QN (.n 50 QJ (.n 49 QI (.n 32 QH .l .l) .l) (.n 74 QM (.n 73 QK .l .l) .l)) (.n 121 Ph (.n 112 Pg (.n 110 Pf .l .l) .l) (.n 160 Pk (.n 151 Pj .l .l) .l)))
def T4:List (Tr au):=t4::T3
def aho {O:aZ} (hO:dX O) (hp:O.prog=prog) (hl:O.aI=aI):cZ O T4:=by
 have h:=ahn hO hp hl;have r8:=fJ hO hp hl h ae4;have Gl:=fJ hO hp hl h ae5;exact cZ.cons (aN (r8 5 rfl) (aN (r8 2 rfl) (aN (r8 1 rfl) (aN (r8 0 rfl) aL aL) aL) (aN (r8 4 rfl) (aN (r8 3 rfl) aL aL) aL)) (aN (Gl 1 rfl) (aN (Gl 0 rfl) (aN (r8 6 rfl) aL aL) aL) (aN (Gl 3 rfl) (aN (Gl 2 rfl) aL aL) aL))) h
def So:au:=[.o 32481 [CU] (j 0)]
def QO:au:=[.m 40115 [v8,v7] (v8) (.o 13339 [v6,v8] (v8))
 (.l)]
def QP:au:=[.m 2147 [v4] (v6) (.o 2146 [v1] (v7))
 (.o 45023 [v0] (v8))]
def QQ:au:=[.o 36992 [v7,Af] (v7)]
def QR:au:=[.o 3604 [r7,v6] (r7)]
def QS:au:=[.o 42377 [KJ] (j 0)]
def QT:au:=[.o 45023 [v0] (j 0)]
def Pm:au:=[.o 40636 [v7,.aC false 4 [j 0,.ab,j 1,.ab,j 1,.ab,j 2,.ab,j 0,.ab,j 1,.ab,j 0,.ab,j 1,.ab],.fn (.f 74) [] []] (v8)]
def Pn:au:=[.m 9006 [v8] (.bool false) (.o 5357 [v7] (.bool false))
 (.l)]
def Po:au:=[.o 2110 [v22,r7] (r7)]
def Pp:au:=[.m 34017 [v21,.fn (.f 487) [] []] (.bool true) (.o 30368 [v20,.fn (.f 487) [] []] (.bool false))
 (.l)]
def k13:List (Nat×au):=[(4,So),(50,QO),(62,QP),(70,QQ),(75,QR),(78,QS),(86,QT),(106,Pm),(107,Pn),(112,Po),(122,Pp)]
def ae6:eP prog aI T4 k13=true:=by decide+kernel
def t5:Tr au:=(.n 78 QS (.n 62 QP (.n 50 QO (.n 4 So .l .l) .l) (.n 75 QR (.n 70 QQ .l .l) .l)) (.n 107 Pn (.n 106 Pm (.n 86 QT .l .l) .l) (.n 122 Pp (.n 112 Po .l .l) .l)))
def T5:List (Tr au):=t5::T4
def ahp {O:aZ} (hO:dX O) (hp:O.prog=prog) (hl:O.aI=aI):cZ O T5:=by
 have h:=aho hO hp hl;have lZ:=fJ hO hp hl h ae6;exact cZ.cons (aN (lZ 5 rfl) (aN (lZ 2 rfl) (aN (lZ 1 rfl) (aN (lZ 0 rfl) aL aL) aL) (aN (lZ 4 rfl) (aN (lZ 3 rfl) aL aL) aL)) (aN (lZ 8 rfl) (aN (lZ 7 rfl) (aN (lZ 6 rfl) aL aL) aL) (aN (lZ 10 rfl) (aN (lZ 9 rfl) aL aL) aL))) h
def QU:au:=[.o 19732 [.agg [v0,v1]] (j 0)]
def QV:au:=[.m 42376 [v28] (v22) (.o 19732 [.agg [v0,v1]] (r7))
 (.l)]
def QW:au:=[.o 9006 [v8] (.ay [v0,j 0])]
def QX:au:=[.m 26105 [v4,j 1] (j 0) (.o 25841 [v1,j 0] (j 0))
 (.l)]
def QY:au:=[.o 57543 [v24] (.bS true 4 4 [j 1,.ab,j 2,.ab,j 1,.ab,j 2,.ab,j 0,.ab,j 1,.ab,j 0,.ab,j 1,.ab])]
def Pq:au:=[.m 33227 [v8,j 2] (.ay [j 0,v8]) (.o 29578 [v7,j 2] (.ay [j 0,v7]))
 (.l)]
def Pr:au:=[.o 32338 [r6] (.agg [j 1,.ab,j 2,.ab,j 1,.ab,j 2,.ab,j 0,.ab,j 1,.ab,j 0,.ab,j 1,.ab])]
def Ps:au:=[.o 24717 [Gk,.fn (.f 107) [] []] (j (-1))]
def Pt:au:=[.o 17032 [v24,.fn (.f 86) [] []] (j 0)]
def k14:List (Nat×au):=[(53,QU),(54,QV),(57,QW),(61,QX),(88,QY),(103,Pq),(104,Pr),(160,Ps),(494,Pt)]
def ae7:eP prog aI T5 k14=true:=by decide+kernel
def t6:Tr au:=(.n 88 QY (.n 57 QW (.n 54 QV (.n 53 QU .l .l) .l) (.n 61 QX .l .l)) (.n 160 Ps (.n 104 Pr (.n 103 Pq .l .l) .l) (.n 494 Pt .l .l)))
def T6:List (Tr au):=t6::T5
def ahq {O:aZ} (hO:dX O) (hp:O.prog=prog) (hl:O.aI=aI):cZ O T6:=by
 have h:=ahp hO hp hl;have ou:=fJ hO hp hl h ae7;exact cZ.cons (aN (ou 4 rfl) (aN (ou 2 rfl) (aN (ou 1 rfl) (aN (ou 0 rfl) aL aL) aL) (aN (ou 3 rfl) aL aL)) (aN (ou 7 rfl) (aN (ou 6 rfl) (aN (ou 5 rfl) aL aL) aL) (aN (ou 8 rfl) aL aL))) h
def QZ:au:=[.o 61974 [r7,j 2] (r6)]
def Q0:au:=[.o 55270 [r6,CU] (v8)]
def Q1:au:=[.o 48449 [v25] (j 0)]
def Q2:au:=[.o 12110 [v25,v7,v28] (v22)]
def Pu:au:=[.o 26453 [v30] (j 0)]
def Pv:au:=[.o 24717 [Gk,.fn (.f 107) [] []] (.bool false)]
def Pw:au:=[.o 18874 [v31,.fn (.f 88) [] []] (.bS false 1 1 [Ae])]
def Px:au:=[.o 16769 [v24,j 4] (j 0)]
def k15:List (Nat×au):=[(55,QZ),(56,Q0),(60,Q1),(64,Q2),(115,Pu),(122,Pv),(489,Pw),(492,Px)]
def ae8:eP prog aI T6 k15=true:=by decide+kernel
def t7:Tr au:=(.n 115 Pu (.n 60 Q1 (.n 56 Q0 (.n 55 QZ .l .l) .l) (.n 64 Q2 .l .l)) (.n 489 Pw (.n 122 Pv .l .l) (.n 492 Px .l .l)))
def T7:List (Tr au):=t7::T6
def ahr {O:aZ} (hO:dX O) (hp:O.prog=prog) (hl:O.aI=aI):cZ O T7:=by
 have h:=ahq hO hp hl;have pZ:=fJ hO hp hl h ae8;exact cZ.cons (aN (pZ 4 rfl) (aN (pZ 2 rfl) (aN (pZ 1 rfl) (aN (pZ 0 rfl) aL aL) aL) (aN (pZ 3 rfl) aL aL)) (aN (pZ 6 rfl) (aN (pZ 5 rfl) aL aL) (aN (pZ 7 rfl) aL aL))) h
def Q3:au:=[.o 47468 [v30,v25,v28,j 1] (j 0)]
def Q4:au:=[.o 7939 [.aC true 1 [v1,v1,v1],.fn (.f 60) [] []] (.bS false 1 1 [j 0])]
def Q5:au:=[.o 65228 [Gk] (.ay [v24,j 0])]
def Py:au:=[.o 47468 [v30,v25,v28,j 1] (r7)]
def Pz:au:=[.o 51464 [CV,.fn (.f 115) [] []] (.bS false 1 1 [j 0])]
def PA:au:=[.o 59385 [v31] (v27)]
def PB:au:=[.o 60064 [v31,.agg [j 64,j 16]] (j 0)]
def k16:List (Nat×au):=[(66,Q3),(77,Q4),(83,Q5),(116,Py),(120,Pz),(485,PA),(488,PB)]
def ae9:eP prog aI T7 k16=true:=by decide+kernel
def t8:Tr au:=(.n 116 Py (.n 77 Q4 (.n 66 Q3 .l .l) (.n 83 Q5 .l .l)) (.n 485 PA (.n 120 Pz .l .l) (.n 488 PB .l .l)))
def T8:List (Tr au):=t8::T7
def ahs {O:aZ} (hO:dX O) (hp:O.prog=prog) (hl:O.aI=aI):cZ O T8:=by
 have h:=ahr hO hp hl;have lf:=fJ hO hp hl h ae9;exact cZ.cons (aN (lf 3 rfl) (aN (lf 1 rfl) (aN (lf 0 rfl) aL aL) (aN (lf 2 rfl) aL aL)) (aN (lf 5 rfl) (aN (lf 4 rfl) aL aL) (aN (lf 6 rfl) aL aL))) h
def Q6:au:=[.o 47468 [v30,v25,v28,j 1] (v8)]
def Q7:au:=[.o 26454 [CV] (j 0)]
def Q8:au:=[.o 2906 [CV,v25,v28,j 1,j 4] (.bS false 4 4 [j 1,.ab,j 2,.ab,j 1,.ab,j 2,.ab,j 0,.ab,j 1,.ab,j 0,.ab,j 1,.ab])]
def PC:au:=[.o 59385 [v31] (j 0)]
def k17:List (Nat×au):=[(67,Q6),(76,Q7),(82,Q8),(484,PC)]
def afa:eP prog aI T8 k17=true:=by decide+kernel
def t9:Tr au:=(.n 82 Q8 (.n 76 Q7 (.n 67 Q6 .l .l) .l) (.n 484 PC .l .l))
def T9:List (Tr au):=t9::T8
def aht {O:aZ} (hO:dX O) (hp:O.prog=prog) (hl:O.aI=aI):cZ O T9:=by
 have h:=ahs hO hp hl;have Gm:=fJ hO hp hl h afa;exact cZ.cons (aN (Gm 2 rfl) (aN (Gm 1 rfl) (aN (Gm 0 rfl) aL aL) aL) (aN (Gm 3 rfl) aL aL)) h
def Q9:au:=[.o 47468 [v30,v25,v28,j 1] (.ay [v0,j 0])]
def Rc:au:=[.o 51380 [CV,.aC true 1 [v1,v1,v1],KJ,j 1] (.ay [.bS false 1 1 [v24],j 0])]
def PD:au:=[.o 59385 [v31] (.ay [.bS false 1 2 [j 2,j 3],j 0])]
def k18:List (Nat×au):=[(24,Q9),(26,Rc),(483,PD)]
def afb:eP prog aI T9 k18=true:=by decide+kernel
def t10:Tr au:=(.n 26 Rc (.n 24 Q9 .l .l) (.n 483 PD .l .l))
def KK:List (Tr au):=t10::T9
def afc {O:aZ} (hO:dX O) (hp:O.prog=prog) (hl:O.aI=aI):cZ O KK:=by
 have h:=aht hO hp hl;have pY:=fJ hO hp hl h afb;exact cZ.cons (aN (pY 1 rfl) (aN (pY 0 rfl) aL aL) (aN (pY 2 rfl) aL aL)) h
def PE:au:=[.o 7 [] (.bool true)]
def k19:List (Nat×au):=[(481,PE)]
def afd:eP prog aI KK k19=true:=by decide+kernel
def t11:Tr au:=(.n 481 PE .l .l)
def T11:List (Tr au):=t11::KK
def afe {O:aZ} (hO:dX O) (hp:O.prog=prog) (hl:O.aI=aI):cZ O T11:=by
 have h:=afc hO hp hl;have c19:=fJ hO hp hl h afd;exact cZ.cons (aN (c19 0 rfl) aL aL) h
def holds {O:aZ} (hO:dX O) (hp:O.prog=prog) (hl:O.aI=aI):dO O 481 [] (.bool true):=Tr.qD (afe hO hp hl t11 (.head _)) (i:=481) rfl _ _ ⟨_,.head _,.inl rfl⟩
end Vz
end VE
