import Derived.Test.YtfohkkaphnfgoabGreatDoorTai
set_option linter.all false
set_option maxRecDepth 100000
namespace VE
namespace VK1
def T0:List (Tr aC):=[]
def aq0 {O:bq} (_hO:ej O) (_hp:O.prog=prog) (_hl:O.aT=aT):et O T0:=et.nil
abbrev j (n:Int):AV:= .int .i64 n
abbrev u (n:Nat):AV:= .int .u64 n
def w (l:List Nat):AV:= .aH true l.length (l.map u)
def v0:AV:= .str [48]
def v1:AV:= .str [51,47,50]
def v2:AV:= .str [49,47,50]
def v3:AV:= .str [49,47,50,52]
def v4:AV:= .str [49]
def v5:AV:= .str [49,47,49,48]
def v6:AV:= .aH true 2 [j 0,j 1]
def v7:AV:= .aH true 2 [j 2,j 3]
def v8:AV:= .aH true 3 [j 0,j 0,j 0]
def v9:AV:= .aH true 4 [j 0,j 0,j 0,j 0]
def v10:AV:= .agg [j 3,.ab,j 2,.ab]
def v11:AV:= .agg [j 1,.ab,j 1,.ab]
def v12:AV:= .agg [j 0,.ab,j 1,.ab]
def cX:AV:= .agg [j 1,.ab,j 2,.ab]
def qZ:AV:= .agg [j 1,.ab,j 24,.ab]
def Oi:AV:= .agg [j 5,.ab,j 4,.ab]
def UC:AV:= .aH true 2 [j 3,j 2]
def Oj:AV:= .aH true 2 [j 1,j 2]
def UD:AV:= .aH true 2 [j 1,j 0]
def E6:AV:= .aH true 2 [j 2,j 4]
def v20:AV:= .str [49,48]
def v21:AV:= .str [53]
def v22:AV:= .agg [j 1,.ab]
def dA:AV:= .agg [j 3,.ab]
def v24:AV:= .agg [j 6,.ab]
def v25:AV:= .agg [j 2,.ab]
def bP:AV:= .agg [j 0,.ab]
def v27:AV:= .agg [j 4,.ab]
def v28:AV:= .agg [j 5,.ab]
def E7:AV:= .agg [j 14,.ab]
def v30:AV:= .agg [j 10,.ab]
def v31:AV:= .agg [j 8,.ab]
def E8:AV:= .agg [j (-1),.ab]
def v33:AV:= .agg [j 12,.ab]
def E9:AV:= .agg [j 9,.ab]
def v35:AV:= .agg [j 16,.ab]
def v36:AV:= .agg [j 96,.ab]
def v37:AV:= .agg [j 100,.ab]
def v38:AV:= .agg [j 24,.ab]
def UE:AV:= .agg [j (-2),.ab]
def v40:AV:= .agg [j 3,.ab,j 1,.ab]
def UF:AV:= .aH true 5 [j 1,j 1,j 1,j 1,j 1]
def v42:AV:= .agg [j 2,.ab,j 1,.ab]
def mw:AV:= .agg [j 5,.ab,j 1,.ab]
def v44:AV:= .agg [j 10,.ab,j 1,.ab]
def UG:AV:= .agg [j 8,.ab,j 1,.ab]
def v46:AV:= .agg [j 12,.ab,j 1,.ab]
def v47:AV:= .agg [j (-1),.ab,j 1,.ab]
def v48:AV:= .agg [j 0,j 0,j 1,.ab,j 2,.ab,j 1,.ab,j 2,.ab]
def v49:AV:= .aq [j 1,j 0]
def JO:AV:= .aq [j 0,j 0]
def v51:AV:= .agg [j 0,j 0,j 0,.ab,j 1,.ab,j 0,.ab,j 1,.ab]
def CP:AV:= .agg [j 0,j 0,j 0,.ab,j 1,.ab,j 1,.ab,j 2,.ab]
def v53:AV:= .agg [j 1,j 0,j 1,.ab,j 2,.ab,j 0,.ab,j 1,.ab]
def JP:AV:= .aq [j 1,j 1]
def JQ:AV:= .aq [j 0,j 1]
def CQ:AV:= .agg [j 1,j 1,j 0,.ab,j 1,.ab,j 0,.ab,j 1,.ab]
def q9:AV:= .agg [j 1,.ab,j 2,.ab,j 1,.ab,j 1,.ab]
def px:AV:= .agg [j 0,.ab,j 1,.ab,j 1,.ab,j 2,.ab]
def v59:AV:= .agg [j 1,.ab,j 24,.ab,j 0,.ab,j 1,.ab]
def Ol:AV:= .aH false 2 [j 1,.ab,j 1,.ab,j 1,.ab,j 1,.ab]
def JR:AV:= .aH false 4 [j 1,.ab,j 2,.ab,j 0,.ab,j 1,.ab,j 0,.ab,j 1,.ab,j 0,.ab,j 1,.ab]
def Om:AV:= .aH true 3 [j 0,j 1,j 0]
def v63:AV:= .agg [j 0,.ab,j 1,.ab,j 0,.ab,j 1,.ab]
def UH:AV:= .agg [j 1,.ab,j 3,.ab]
def v65:AV:= .agg [j 1,.ab,j 4,.ab]
def Fa:AV:= .agg [j 3,.ab,j 4,.ab]
def Fb:AV:= .agg [j 7,.ab,j 2,.ab]
def v68:AV:= .agg [j 9,.ab,j 4,.ab]
def v69:AV:= .agg [j 1,.ab,j 8,.ab]
def v70:AV:= .agg [j 1,.ab,j 10,.ab]
def UI:AV:= .agg [j 1,.ab,j 12,.ab]
def v72:AV:= .aH false 1 [j 1,.ab,j 1,.ab]
def v73:AV:= .aH true 1 [j 1,.ab,j 1,.ab]
def On:AV:= .aH true 2 [j 1,.ab,j 1,.ab,j 1,.ab,j 1,.ab]
def v75:AV:= .agg [j 6,.ab,j 1,.ab]
def v76:AV:= .agg [j 4,.ab,j 1,.ab]
def v77:AV:= .agg [j 14,.ab,j 1,.ab]
def Oo:AV:= .agg [j 1,.ab,j 1,.ab,j 0,.ab,j 1,.ab]
def v79:AV:= .agg [j 1,.ab,j 1,.ab,j 0,.ab,j 1,.ab,j 0,.ab,j 1,.ab,j 0,.ab,j 1,.ab]
def v80:AV:= .agg [j 3,.ab,j 2,.ab,j 0,.ab,j 1,.ab]
def CR:AV:= .agg [j 1,.ab,j 2,.ab,j 0,.ab,j 1,.ab]
def v82:AV:= .agg [j 1,.ab,j 2,.ab,j 1,.ab,j 2,.ab]
def v83:AV:= .agg [j 0,.ab,j 1,.ab,j 1,.ab,j 1,.ab]
def v84:AV:= .agg [j 1,.ab,j 10,.ab,j 0,.ab,j 1,.ab]
def v85:AV:= .aH false 1 [j 3,.ab,j 1,.ab]
def UJ:AV:= .agg [j 1,.ab,j 1,.ab,j 1,.ab,j 1,.ab]
def v87:AV:= .agg [v0,v0]
def Oq:AV:= .agg [v1,v0]
def Ot:AV:= .agg [v2,v2]
def lV:AV:= .agg [v0,v4]
def v91:AV:= .agg [v4,v0]
def ck:AV:= .aH true 2 [v6,v7]
def v93:AV:= .aH true 2 [v4,v4]
def Fc:AV:= .aH true 4 [v2,v0,v0,v0]
def Fe:AV:= .agg [v0,v0,v0]
def rb:AV:= .agg [v0,v0,v20]
def zd:AV:= .agg [v5,v0,v0]
def Ou:AV:= .aq [bP,bP]
def Ff:AV:= .aq [v22,bP]
def Na:AV:= .aq [v25,bP]
def Cq:AV:= .aq [bP,v22]
def IR:AV:= .aH true 2 [E6,E6]
def Nb:AV:= .aH true 2 [UD,UC]
def Ss:AV:= .aH true 2 [Oj,Oj]
def v105:AV:= .aH true 3 [Om,Om,v8]
def Nc:AV:= .aq [v1,j 0]
def v107:AV:= .aH true 1 [.str [51]]
def Su:AV:= .aH true 1 [v0,v0]
def v109:AV:= .agg [ck,v21,v4,v2,v0,v0,v2,v0]
def IS:AV:= .aH true 1 [ck,v21,v4,v2,v0,v0,v2,v0]
def EG:AV:= .aH true 1 [v93]
def abH:aC:=[.m 40535 [v0,v0] (v87) (.m 17893 [v1,v0] (Oq) (.m 17891 [v2,v0] (.agg [v2,v0]) (.o 9861 [v3,v0] (.agg [v3,v0]))
 (.l))
 (.m 24930 [v2,v2] (Ot) (.o 18154 [v2,v4] (.agg [v2,v4]))
 (.l)))
 (.m 47574 [v0,v2] (.agg [v0,v2]) (.m 40798 [v0,v4] (lV) (.o 40536 [v4,v0] (v91))
 (.l))
 (.o 56238 [v5,v0] (.agg [v5,v0])))]
def abI:aC:=[.o 7 [] (ck)]
def abJ:aC:=[.m 51556 [v93,v93] (.bool true) (.o 30452 [Fc,Fc] (.bool true))
 (.l)]
def abK:aC:=[.m 28694 [.bool false,j 12] (j 0) (.m 26327 [.bool false,j 3] (j 0) (.o 26064 [.bool false,j 2] (j 0))
 (.o 26853 [.bool false,j 5] (j 0)))
 (.m 33691 [.bool false,j 31] (j 0) (.o 28957 [.bool false,j 13] (j 0))
 (.l))]
def abL:aC:=[.m 34670 [v8] (j 0) (.m 9480 [.aH true 6 [j 0,j 0,j 0,j 0,j 0,j 0]] (j 0) (.o 3683 [.aH false 1 [j 0]] (j 0))
 (.o 27379 [.aH true 2 [j 0,j 0]] (j 0)))
 (.m 51832 [v9] (j 0) (.o 44227 [.aH true 5 [j 0,j 0,j 0,j 0,j 0]] (j 0))
 (.l)),
 .o 44227 [.aH false 5 [j 0,j 0,j 0,j 0,j 0]] (j 0)]
def abM:aC:=[.m 25801 [j 2,j 1] (j 3) (.m 25800 [j 1,j 1] (j 2) (.o 25799 [j 0,j 1] (j 1))
 (.l))
 (.m 25803 [j 4,j 1] (j 5) (.o 25802 [j 3,j 1] (j 4))
 (.l))]
def abN:aC:=[.m 51329 [j 0,j 1,.aO [ck]] (j 2) (.m 51067 [j 1,j 0,.aO [ck]] (j 1) (.o 51066 [j 0,j 0,.aO [ck]] (j 0))
 (.l))
 (.o 51330 [j 1,j 1,.aO [ck]] (j 3))]
def abO:aC:=[.m 9008 [v10] (v1) (.m 5358 [v11] (v4) (.o 5357 [v12] (v0))
 (.o 9006 [cX] (v2)))
 (.m 23741 [qZ] (v3) (.o 16306 [Oi] (.str [53,47,52]))
 (.l))]
def abP:aC:=[.m 51329 [j 0,j 1,.aO [ck]] (j 2) (.m 51067 [j 1,j 0,.aO [ck]] (j 1) (.o 51066 [j 0,j 0,.aO [ck]] (j 0))
 (.l))
 (.o 51330 [j 1,j 1,.aO [ck]] (j 3))]
def abQ:aC:=[.m 51329 [j 0,j 1,.aO [ck]] (j 4) (.m 51067 [j 1,j 0,.aO [ck]] (j 1) (.o 51066 [j 0,j 0,.aO [ck]] (j 0))
 (.l))
 (.o 51330 [j 1,j 1,.aO [ck]] (j 9))]
def abR:aC:=[.m 27519 [UC,UC] (.bool true) (.m 26991 [Oj,Oj] (.bool true) (.o 19169 [UD,UD] (.bool true))
 (.l))
 (.o 35077 [E6,E6] (.bool true))]
def abS:aC:=[.m 48449 [Fe] (.bool true) (.o 46691 [rb] (.bool false))
 (.o 64152 [zd] (.bool true))]
def abT:aC:=[.o 45199 [v109] (j 4)]
def abU:aC:=[.o 26588 [j 0,j 4] (j 4)]
def abV:aC:=[.m 26852 [j 1,.aO [j 1000]] (.bool false) (.o 26851 [j 0,.aO [j 1000]] (.bool false))
 (.l)]
def k0:List (Nat×aC):=[(14,abH),(15,abI),(29,abJ),(31,abK),(33,abL),(38,abM),(44,abN),(46,abO),(47,abP),(48,abQ),(59,abR),(68,abS),(80,abT),(81,abU),(94,abV)]
def aq1:iy prog aT T0 k0=true:=by decide+kernel
def abW:aC:=[.m 26853 [j 2,.aO [j 1000]] (.bool false) (.m 26852 [j 1,.aO [j 100]] (.bool false) (.o 26851 [j 0,.aO [j 100]] (.bool false))
 (.l))
 (.m 26855 [j 4,.aO [j 1000]] (.bool false) (.o 26854 [j 3,.aO [j 1000]] (.bool false))
 (.l))]
def abX:aC:=[.m 1844 [j 3] (.fn (.f 133) [] [.aO [j 3]]) (.o 1843 [j 2] (.fn (.f 133) [] [.aO [j 2]]))
 (.l)]
def Z1:aC:=[.m 38722 [v22,dA] (dA) (.m 38201 [v24,v22] (v24) (.m 38196 [v22,v22] (v22) (.m 37934 [v25,bP] (bP) (.m 37933 [v22,bP] (bP) (.o 37932 [bP,bP] (bP))
 (.l))
 (.o 38195 [bP,v22] (bP)))
 (.m 38199 [v27,v22] (v27) (.m 38198 [dA,v22] (dA) (.o 38197 [v25,v22] (v25))
 (.l))
 (.o 38200 [v28,v22] (v28))))
 (.m 38460 [v25,v25] (v27) (.m 38458 [bP,v25] (bP) (.m 38209 [E7,v22] (E7) (.o 38205 [v30,v22] (v30))
 (.l))
 (.o 38459 [v22,v25] (v25)))
 (.m 38474 [.agg [j (-9),.ab],v25] (.agg [j (-18),.ab]) (.o 38462 [v27,v25] (v31))
 (.o 38721 [bP,dA] (bP)))))
 (.m 40036 [E8,v31] (.agg [j (-8),.ab]) (.m 38987 [dA,v27] (v33) (.m 38985 [v22,v27] (v27) (.m 38984 [bP,v27] (bP) (.o 38724 [dA,dA] (E9))
 (.l))
 (.o 38986 [v25,v27] (v31)))
 (.m 39247 [bP,v28] (bP) (.m 38991 [.agg [j 7,.ab],v27] (.agg [j 28,.ab]) (.o 38988 [v27,v27] (v35))
 (.l))
 (.o 39248 [v22,v28] (v28))))
 (.m 41096 [v31,v33] (v36) (.m 40572 [v30,v30] (v37) (.m 40563 [v22,v30] (v30) (.o 40562 [bP,v30] (bP))
 (.l))
 (.o 41089 [v22,v33] (v33)))
 (.m 64232 [bP,v37] (bP) (.o 44245 [v22,v38] (v38))
 (.o 64233 [v22,v37] (v37))))),
 .m 38458 [E8,v25] (UE) (.o 38195 [E8,v22] (E8))
 (.l)]
def Z2:aC:=[.m 38196 [v22,v22] (v11) (.o 38195 [bP,v22] (v12))
 (.o 38198 [dA,v22] (v40))]
def Z3:aC:=[.m 40564 [v25,v30] (j (-1)) (.o 38196 [v22,v22] (j 0))
 (.o 40567 [v28,v30] (j (-1)))]
def Z4:aC:=[.m 38458 [bP,v25] (v25) (.m 37934 [v25,E8] (v22) (.m 37933 [v22,bP] (v22) (.o 37932 [bP,bP] (bP))
 (.l))
 (.o 38195 [bP,v22] (v22)))
 (.m 41100 [v33,v33] (v38) (.o 38986 [v25,v27] (v24))
 (.o 46902 [.agg [j 28,.ab],.agg [j (-18),.ab]] (v30)))]
def k1:List (Nat×aC):=[(94,abW),(96,abX),(100,Z1),(101,Z2),(118,Z3),(119,Z4)]
def aq2:iy prog aT T0 k1=true:=by decide+kernel
def Z5:aC:=[.m 38468 [v30,UE] (v31) (.m 38197 [v25,v22] (dA) (.m 37935 [dA,bP] (dA) (.o 37933 [v22,E8] (bP))
 (.o 38196 [v22,v22] (v25)))
 (.m 38461 [dA,UE] (v22) (.o 38460 [v25,v25] (v27))
 (.l)))
 (.m 39247 [bP,v28] (v28) (.m 38984 [bP,v27] (v27) (.o 38721 [bP,dA] (dA))
 (.l))
 (.m 41626 [v33,.agg [j (-8),.ab]] (v27) (.o 40562 [bP,v30] (v30))
 (.l))),
 .o 38468 [v30,v25] (v33)]
def Z6:aC:=[.m 26590 [.bool false,j 4] (j 0) (.m 26064 [.bool false,j 2] (j 0) (.o 25801 [.bool false,j 1] (j 0))
 (.l))
 (.m 28694 [.bool false,j 12] (j 0) (.o 26853 [.bool false,j 5] (j 0))
 (.l))]
def Z7:aC:=[.m 51832 [v9] (j 0) (.o 27379 [.aH true 2 [j 0,j 0]] (j 0))
 (.l)]
def Z8:aC:=[.m 2149 [.str [51]] (.bool true) (.m 2147 [v4] (.bool true) (.o 2146 [v0] (.bool true))
 (.o 2148 [.str [50]] (.bool true)))
 (.m 2151 [v21] (.bool true) (.o 2150 [.str [52]] (.bool true))
 (.o 14754 [v20] (.bool true)))]
def Z9:aC:=[.m 26063 [j 1,j 2] (j 1) (.o 26062 [j 0,j 2] (j 0))
 (.o 26064 [j 2,j 2] (j 0)),
 .o 26062 [j (-1),j 2] (j 1)]
def aaa:aC:=[.m 28694 [v25] (.bool false) (.m 28693 [v22] (.bool false) (.o 28692 [bP] (.bool false))
 (.l))
 (.m 28716 [v38] (.bool false) (.o 28695 [dA] (.bool false))
 (.l))]
def aab:aC:=[.m 38468 [v30,v25] (.aq [v28,bP]) (.m 38458 [bP,v25] (Ou) (.m 38198 [dA,v22] (.aq [dA,bP]) (.m 38196 [v22,v22] (Ff) (.o 38195 [bP,v22] (Ou))
 (.o 38197 [v25,v22] (Na)))
 (.m 38204 [E9,v22] (.aq [E9,bP]) (.o 38199 [v27,v22] (.aq [v27,bP]))
 (.l)))
 (.m 38462 [v27,v25] (Na) (.m 38460 [v25,v25] (Ff) (.o 38459 [v22,v25] (Cq))
 (.l))
 (.m 38466 [v31,v25] (.aq [v27,bP]) (.o 38464 [v24,v25] (.aq [dA,bP]))
 (.l))))
 (.m 38987 [dA,v27] (.aq [bP,dA]) (.m 38984 [bP,v27] (Ou) (.m 38725 [v27,dA] (.aq [v22,v22]) (.o 38472 [E7,v25] (.aq [.agg [j 7,.ab],bP]))
 (.l))
 (.m 38986 [v25,v27] (.aq [bP,v25]) (.o 38985 [v22,v27] (Cq))
 (.l)))
 (.m 38993 [E9,v27] (.aq [v25,v22]) (.m 38990 [v24,v27] (.aq [v22,v25]) (.o 38988 [v27,v27] (Ff))
 (.l))
 (.m 40046 [v30,v31] (.aq [v22,v25]) (.o 38998 [E7,v27] (.aq [dA,v25]))
 (.l))))]
def k2:List (Nat×aC):=[(119,Z5),(124,Z6),(125,Z7),(129,Z8),(134,Z9),(151,aaa),(164,aab)]
def aq3:iy prog aT T0 k2=true:=by decide+kernel
def aac:aC:=[.m 40037 [v22,v31] (Cq) (.m 38722 [v22,dA] (Cq) (.m 38207 [v33,v22] (.aq [v33,bP]) (.m 38205 [v30,v22] (.aq [v30,bP]) (.o 38203 [v31,v22] (.aq [v31,bP]))
 (.l))
 (.m 38461 [dA,v25] (.aq [v22,v22]) (.o 38219 [v38,v22] (.aq [v38,bP]))
 (.l)))
 (.m 39252 [v28,v28] (Ff) (.m 39080 [v36,v27] (.aq [v38,bP]) (.o 38724 [dA,dA] (Ff))
 (.l))
 (.m 39518 [v31,v24] (.aq [v22,v25]) (.o 39257 [v30,v28] (Na))
 (.l))))
 (.m 41089 [v22,v33] (Cq) (.m 40060 [v38,v31] (.aq [dA,bP]) (.m 40052 [v35,v31] (Na) (.o 40042 [v24,v31] (.aq [bP,v24]))
 (.l))
 (.m 40567 [v28,v30] (.aq [bP,v28]) (.o 40563 [v22,v30] (Cq))
 (.l)))
 (.m 44245 [v22,v38] (Cq) (.m 44244 [bP,v38] (Ou) (.o 42164 [v38,v35] (.aq [v22,v31]))
 (.l))
 (.m 63184 [v27,v36] (.aq [bP,v27]) (.o 44268 [v38,v38] (Ff))
 (.l))))]
def k3:List (Nat×aC):=[(164,aac)]
def aq4:iy prog aT T0 k3=true:=by decide+kernel
def t1:Tr aC:=(.n 81 abU (.n 44 abN (.n 31 abK (.n 15 abI (.n 14 abH .l .l) (.n 29 abJ .l .l)) (.n 38 abM (.n 33 abL .l .l) .l)) (.n 59 abR (.n 47 abP (.n 46 abO .l .l) (.n 48 abQ .l .l)) (.n 80 abT (.n 68 abS .l .l) .l))) (.n 124 Z6 (.n 101 Z2 (.n 96 abX (.n 94 (abV++abW) .l .l) (.n 100 Z1 .l .l)) (.n 119 (Z4++Z5) (.n 118 Z3 .l .l) .l)) (.n 134 Z9 (.n 129 Z8 (.n 125 Z7 .l .l) .l) (.n 164 (aab++aac) (.n 151 aaa .l .l) .l))))
def T1:List (Tr aC):=t1::T0
def aq5 {O:bq} (hO:ej O) (hp:O.prog=prog) (hl:O.aT=aT):et O T1:=by
 have h:=aq0 hO hp hl;have c0:=jH hO hp hl h aq1;have c1:=jH hO hp hl h aq2;have c2:=jH hO hp hl h aq3;have c3:=jH hO hp hl h aq4;exact et.cons (aN (c0 13 rfl) (aN (c0 6 rfl) (aN (c0 3 rfl) (aN (c0 1 rfl) (aN (c0 0 rfl) aL aL) (aN (c0 2 rfl) aL aL)) (aN (c0 5 rfl) (aN (c0 4 rfl) aL aL) aL)) (aN (c0 10 rfl) (aN (c0 8 rfl) (aN (c0 7 rfl) aL aL) (aN (c0 9 rfl) aL aL)) (aN (c0 12 rfl) (aN (c0 11 rfl) aL aL) aL))) (aN (c2 1 rfl) (aN (c1 3 rfl) (aN (c1 1 rfl) (aN (.dl (c0 14 rfl) (c1 0 rfl)) aL aL) (aN (c1 2 rfl) aL aL)) (aN (.dl (c1 5 rfl) (c2 0 rfl)) (aN (c1 4 rfl) aL aL) aL)) (aN (c2 4 rfl) (aN (c2 3 rfl) (aN (c2 2 rfl) aL aL) aL) (aN (.dl (c2 6 rfl) (c3 0 rfl)) (aN (c2 5 rfl) aL aL) aL)))) h
def abY:aC:=[.m 47931 [IR,IR] (.bool true) (.o 9899 [Nb,Nb] (.bool true))
 (.l),
 .o 9899 [Ss,Ss] (.bool true)]
def abZ:aC:=[.o 7 [] (v109)]
def ab0:aC:=[.o 58093 [.aH false 1 [Fc],.aH true 1 [Fc]] (.bool true)]
def ab1:aC:=[.m 43068 [j 1,j 1,j 2147483646] (j 0) (.m 25938 [j 2,j 1,j 16] (j 0) (.o 11651 [j 1,j 0,j 1000] (j 0))
 (.l))
 (.m 55041 [j 1,j (-999999999),j 999999999] (j 0) (.o 55040 [j 0,j (-999999999),j 999999999] (j 0))
 (.l))]
def ab2:aC:=[.m 25649 [j 0,UF,.fn (.f 38) [] []] (j 5) (.o 12396 [j 0,.aH false 1 [j 4],.fn (.f 81) [] []] (j 4))
 (.l)]
def ab3:aC:=[.m 36730 [v11,v11] (v11) (.m 36468 [v42,v12] (v12) (.m 36467 [v11,v12] (v12) (.o 36466 [v12,v12] (v12))
 (.l))
 (.o 36729 [v12,v11] (v12)))
 (.m 37256 [v11,v40] (v40) (.m 37255 [v12,v40] (v12) (.o 36992 [v12,v42] (v12))
 (.l))
 (.o 37781 [v12,mw] (v12)))]
def ab4:aC:=[.m 31055 [zd,mw] (.bool true) (.o 15352 [Fe,mw] (.bool true))
 (.l)]
def ab5:aC:=[.m 39101 [mw,v44] (j (-1)) (.o 39098 [v42,v44] (j (-1)))
 (.l)]
def ab6:aC:=[.m 36730 [v11,v11] (v42) (.m 36469 [v40,v12] (v40) (.m 36467 [v11,v12] (v11) (.o 36466 [v12,v12] (v12))
 (.l))
 (.o 36729 [v12,v11] (v11)))
 (.m 37002 [v44,.agg [j (-2),.ab,j 1,.ab]] (UG) (.o 36731 [v42,v11] (v40))
 (.o 37255 [v12,v40] (v40))),
 .m 37002 [v44,v42] (v46) (.o 36467 [v11,v47] (v12))
 (.l)]
def ab7:aC:=[.o 4689 [IS,.fn (.f 80) [] []] (.cp false 1 1 [j 4])]
def ab8:aC:=[.m 2150 [.str [52]] (j 0) (.m 2147 [v4] (j 0) (.o 2146 [v0] (j 0))
 (.o 2149 [.str [51]] (j 0)))
 (.m 14754 [v20] (j 0) (.o 2151 [v21] (j 0))
 (.l))]
def ab9:aC:=[.m 5504 [ck,j 1,j 2] (j 1) (.m 2119 [ck,j 2,j 1] (j 2) (.m 1856 [ck,j 1,j 1] (j 3) (.o 1593 [ck,j (-1),j 1] (j 3))
 (.l))
 (.o 5241 [ck,j (-1),j 2] (j 1)))
 (.m 63729 [ck,j 1,j 0] (j 1) (.m 63466 [ck,j (-1),j 0] (j 1) (.o 5767 [ck,j 2,j 2] (j 0))
 (.l))
 (.o 63992 [ck,j 2,j 0] (j 0))),
 .m 63466 [ck,j 0,j 0] (j 0) (.m 5241 [ck,j 0,j 2] (j 0) (.o 1593 [ck,j 0,j 1] (j 2))
 (.l))
 (.m 63992 [ck,j 2,j (-1)] (j 2) (.o 63729 [ck,j 1,j (-1)] (j 3))
 (.l)),
 .o 63466 [ck,j (-1),j (-1)] (j 3),
 .o 63466 [ck,j 0,j (-1)] (j 2)]
def aad:aC:=[.m 62435 [v48,j 1,j 2] (v49) (.o 62172 [v48,j 0,j 2] (JO))
 (.l)]
def k4:List (Nat×aC):=[(21,abY),(23,abZ),(28,ab0),(34,ab1),(37,ab2),(49,ab3),(63,ab4),(71,ab5),(74,ab6),(79,ab7),(86,ab8),(97,ab9),(105,aad)]
def aq6:iy prog aT T1 k4=true:=by decide+kernel
def aae:aC:=[.m 60093 [v51,j 1,j 2] (v49) (.m 51383 [CP,j 0,j 2] (JO) (.m 5625 [v53,j 2,j 2] (JP) (.m 5362 [v53,j 1,j 2] (JO) (.o 5099 [v53,j 0,j 2] (v49))
 (.l))
 (.o 5888 [v53,j 3,j 2] (JQ)))
 (.m 52172 [CP,j 3,j 2] (JP) (.m 51909 [CP,j 2,j 2] (JQ) (.o 51646 [CP,j 1,j 2] (v49))
 (.l))
 (.o 59830 [v51,j 0,j 2] (JO))))
 (.m 60620 [CQ,j 2,j 2] (v49) (.m 60357 [CQ,j 1,j 2] (JQ) (.m 60356 [v51,j 2,j 2] (JQ) (.o 60094 [CQ,j 0,j 2] (JP))
 (.l))
 (.o 60619 [v51,j 3,j 2] (JP)))
 (.m 62698 [v48,j 2,j 2] (JQ) (.o 60883 [CQ,j 3,j 2] (JO))
 (.o 62961 [v48,j 3,j 2] (JP))))]
def aaf:aC:=[.m 9006 [cX] (.bool false) (.m 5358 [v11] (.bool false) (.o 5357 [v12] (.bool false))
 (.l))
 (.m 23741 [qZ] (.bool false) (.o 9008 [v10] (.bool false))
 (.l))]
def aag:aC:=[.m 44894 [q9] (.agg [v2,v4]) (.o 14255 [px] (.agg [v0,v2]))
 (.o 52488 [v59] (.agg [v3,v0]))]
def aah:aC:=[.m 41248 [Ol] (.cp true 1 2 [v4,v4]) (.o 19556 [JR] (.cp true 1 4 [v2,v0,v0,v0]))
 (.l)]
def aai:aC:=[.m 38990 [v24,v27] (v25) (.m 38724 [dA,dA] (dA) (.m 38461 [dA,v25] (v22) (.m 38459 [v22,v25] (v22) (.o 38458 [bP,v25] (v25))
 (.o 38460 [v25,v25] (v25)))
 (.m 38722 [v22,dA] (v22) (.o 38462 [v27,v25] (v25))
 (.l)))
 (.m 38986 [v25,v27] (v25) (.m 38985 [v22,v27] (v22) (.o 38984 [bP,v27] (v27))
 (.l))
 (.m 38988 [v27,v27] (v27) (.o 38987 [dA,v27] (v22))
 (.l))))
 (.m 40567 [v28,v30] (v28) (.m 40042 [v24,v31] (v25) (.m 38998 [E7,v27] (v25) (.o 38993 [E9,v27] (v22))
 (.o 40037 [v22,v31] (v22)))
 (.m 40563 [v22,v30] (v22) (.o 40046 [v30,v31] (v25))
 (.l)))
 (.m 44244 [bP,v38] (v38) (.m 42164 [v38,v35] (v31) (.o 41089 [v22,v33] (v22))
 (.l))
 (.m 63184 [v27,v36] (v27) (.o 44245 [v22,v38] (v22))
 (.l))))]
def aaj:aC:=[.m 53443 [E6,.fn (.f 94) [] [.aO [j 1000]]] (j (-1)) (.m 53180 [v7,.fn (.f 94) [] [.aO [j 1000]]] (j (-1)) (.o 52652 [v6,.fn (.f 94) [] [.aO [j 1000]]] (j (-1)))
 (.l))
 (.m 59943 [Om,.fn (.f 94) [] [.aO [j 100]]] (j (-1)) (.o 59680 [v8,.fn (.f 94) [] [.aO [j 100]]] (j (-1)))
 (.l))]
def aak:aC:=[.m 9006 [cX] (bP) (.o 5357 [v12] (bP))
 (.l)]
def k5:List (Nat×aC):=[(105,aae),(107,aaf),(114,aag),(123,aah),(130,aai),(132,aaj),(149,aak)]
def aq7:iy prog aT T1 k5=true:=by decide+kernel
def aal:aC:=[.m 9008 [v10] (v22) (.o 5358 [v11] (v22))
 (.l)]
def aam:aC:=[.m 52923 [v30,j 2] (v37) (.o 52660 [v30,j 1] (v30))
 (.l)]
def k6:List (Nat×aC):=[(149,aal),(155,aam)]
def aq8:iy prog aT T1 k6=true:=by decide+kernel
def t2:Tr aC:=(.n 86 ab8 (.n 49 ab3 (.n 28 ab0 (.n 23 abZ (.n 21 abY .l .l) .l) (.n 37 ab2 (.n 34 ab1 .l .l) .l)) (.n 74 ab6 (.n 71 ab5 (.n 63 ab4 .l .l) .l) (.n 79 ab7 .l .l))) (.n 123 aah (.n 107 aaf (.n 105 (aad++aae) (.n 97 ab9 .l .l) .l) (.n 114 aag .l .l)) (.n 149 (aak++aal) (.n 132 aaj (.n 130 aai .l .l) .l) (.n 155 aam .l .l))))
def T2:List (Tr aC):=t2::T1
def aq9 {O:bq} (hO:ej O) (hp:O.prog=prog) (hl:O.aT=aT):et O T2:=by
 have h:=aq5 hO hp hl;have c4:=jH hO hp hl h aq6;have c5:=jH hO hp hl h aq7;have c6:=jH hO hp hl h aq8;exact et.cons (aN (c4 10 rfl) (aN (c4 5 rfl) (aN (c4 2 rfl) (aN (c4 1 rfl) (aN (c4 0 rfl) aL aL) aL) (aN (c4 4 rfl) (aN (c4 3 rfl) aL aL) aL)) (aN (c4 8 rfl) (aN (c4 7 rfl) (aN (c4 6 rfl) aL aL) aL) (aN (c4 9 rfl) aL aL))) (aN (c5 3 rfl) (aN (c5 1 rfl) (aN (.dl (c4 12 rfl) (c5 0 rfl)) (aN (c4 11 rfl) aL aL) aL) (aN (c5 2 rfl) aL aL)) (aN (.dl (c5 6 rfl) (c6 0 rfl)) (aN (c5 5 rfl) (aN (c5 4 rfl) aL aL) aL) (aN (c6 1 rfl) aL aL)))) h
def aca:aC:=[.o 1842 [j 1] (j 0)]
def acb:aC:=[.m 45155 [j 0,j 1,.aO [v105],.aO [ck],.aO [j 1]] (j 2) (.m 44893 [j 1,j 0,.aO [v105],.aO [ck],.aO [j 1]] (j 4) (.o 44892 [j 0,j 0,.aO [v105],.aO [ck],.aO [j 1]] (j 2))
 (.l))
 (.o 45156 [j 1,j 1,.aO [v105],.aO [ck],.aO [j 1]] (j 4))]
def acd:aC:=[.m 36730 [v11,v11] (v12) (.m 36467 [v11,v12] (v11) (.o 36466 [v12,v12] (v12))
 (.l))
 (.o 37002 [v44,v42] (UG))]
def ace:aC:=[.m 1842 [j 1] (j 0) (.o 1841 [j 0] (j 0))
 (.l)]
def acf:aC:=[.m 45155 [j 0,j 1,.aO [ck],.aO [j 1],.aO [j 0]] (j 1) (.m 44893 [j 1,j 0,.aO [ck],.aO [j 1],.aO [j 0]] (j 1) (.o 44892 [j 0,j 0,.aO [ck],.aO [j 1],.aO [j 0]] (j 1))
 (.l))
 (.o 45156 [j 1,j 1,.aO [ck],.aO [j 1],.aO [j 0]] (j 1))]
def acg:aC:=[.m 42377 [v91] (j 0) (.o 42376 [v87] (j 0))
 (.o 42639 [lV] (j 0))]
def ach:aC:=[.m 9008 [v10] (Nc) (.o 9006 [cX] (.aq [v2,j 0]))
 (.l)]
def aci:aC:=[.m 45155 [j 0,j 1,.aO [ck],.aO [j 1],.aO [j 0]] (j 3) (.m 44893 [j 1,j 0,.aO [ck],.aO [j 1],.aO [j 0]] (j 0) (.o 44892 [j 0,j 0,.aO [ck],.aO [j 1],.aO [j 0]] (j 1))
 (.l))
 (.o 45156 [j 1,j 1,.aO [ck],.aO [j 1],.aO [j 0]] (j 2))]
def acj:aC:=[.m 65476 [v63,v11] (v63) (.o 1007 [v63,mw] (v63))
 (.l)]
def ack:aC:=[.o 29001 [v107,.fn (.f 86) [] []] (.cp false 1 1 [j 0])]
def acm:aC:=[.m 53443 [E6,.fn (.f 94) [] [.aO [j 1000]]] (.bool false) (.m 53180 [v7,.fn (.f 94) [] [.aO [j 1000]]] (.bool false) (.o 52652 [v6,.fn (.f 94) [] [.aO [j 1000]]] (.bool false))
 (.l))
 (.m 59943 [Om,.fn (.f 94) [] [.aO [j 100]]] (.bool false) (.o 59680 [v8,.fn (.f 94) [] [.aO [j 100]]] (.bool false))
 (.l))]
def aan:aC:=[.m 38990 [v24,v27] (v10) (.m 38724 [dA,dA] (v11) (.m 38461 [dA,v25] (v10) (.m 38459 [v22,v25] (cX) (.o 38458 [bP,v25] (v12))
 (.o 38460 [v25,v25] (v11)))
 (.m 38722 [v22,dA] (UH) (.o 38462 [v27,v25] (v42))
 (.l)))
 (.m 38986 [v25,v27] (cX) (.m 38985 [v22,v27] (v65) (.o 38984 [bP,v27] (v12))
 (.l))
 (.m 38988 [v27,v27] (v11) (.o 38987 [dA,v27] (Fa))
 (.l))))
 (.m 40567 [v28,v30] (cX) (.m 40042 [v24,v31] (Fa) (.m 38998 [E7,v27] (Fb) (.o 38993 [E9,v27] (v68))
 (.o 40037 [v22,v31] (v69)))
 (.m 40563 [v22,v30] (v70) (.o 40046 [v30,v31] (Oi))
 (.l)))
 (.m 44244 [bP,v38] (v12) (.m 42164 [v38,v35] (v10) (.o 41089 [v22,v33] (UI))
 (.l))
 (.m 63184 [v27,v36] (qZ) (.o 44245 [v22,v38] (qZ))
 (.l))))]
def aao:aC:=[.m 47498 [v12,.aH false 4 [j 0,.ab,j 1,.ab,j 0,.ab,j 1,.ab,j 1,.ab,j 1,.ab,j 0,.ab,j 1,.ab],.fn (.f 74) [] []] (v11) (.o 20032 [v12,.aH false 4 [j 3,.ab,j 1,.ab,j 0,.ab,j 1,.ab,j 0,.ab,j 1,.ab,j 0,.ab,j 1,.ab],.fn (.f 74) [] []] (v40))
 (.l)]
def aap:aC:=[.o 2147 [v4] (v22)]
def k7:List (Nat×aC):=[(36,aca),(41,acb),(50,acd),(51,ace),(52,acf),(53,acg),(57,ach),(58,aci),(75,acj),(85,ack),(95,acm),(101,aan),(106,aao),(110,aap)]
def ara:iy prog aT T2 k7=true:=by decide+kernel
def aaq:aC:=[.m 2150 [.str [52]] (v27) (.m 2148 [.str [50]] (v25) (.o 2146 [v0] (bP))
 (.o 2149 [.str [51]] (dA)))
 (.m 14754 [v20] (v30) (.o 2151 [v21] (v28))
 (.l))]
def aar:aC:=[.o 25238 [v63,v63] (v63)]
def aas:aC:=[.m 44894 [q9] (.bool false) (.o 14255 [px] (.bool false))
 (.o 52488 [v59] (.bool false))]
def aat:aC:=[.m 36994 [v72,v73] (v11) (.o 11145 [On,On] (v42))
 (.l)]
def aau:aC:=[.m 44566 [JR,.fn (.f 107) [] []] (j (-1)) (.o 737 [Ol,.fn (.f 107) [] []] (j (-1)))
 (.l)]
def aav:aC:=[.o 42642 [v93] (j 0)]
def k8:List (Nat×aC):=[(110,aaq),(112,aar),(113,aas),(131,aat),(160,aau),(161,aav)]
def arb:iy prog aT T2 k8=true:=by decide+kernel
def t3:Tr aC:=(.n 85 ack (.n 52 acf (.n 50 acd (.n 41 acb (.n 36 aca .l .l) .l) (.n 51 ace .l .l)) (.n 58 aci (.n 57 ach (.n 53 acg .l .l) .l) (.n 75 acj .l .l))) (.n 112 aar (.n 106 aao (.n 101 aan (.n 95 acm .l .l) .l) (.n 110 (aap++aaq) .l .l)) (.n 160 aau (.n 131 aat (.n 113 aas .l .l) .l) (.n 161 aav .l .l))))
def T3:List (Tr aC):=t3::T2
def arc {O:bq} (hO:ej O) (hp:O.prog=prog) (hl:O.aT=aT):et O T3:=by
 have h:=aq9 hO hp hl;have c7:=jH hO hp hl h ara;have c8:=jH hO hp hl h arb;exact et.cons (aN (c7 9 rfl) (aN (c7 4 rfl) (aN (c7 2 rfl) (aN (c7 1 rfl) (aN (c7 0 rfl) aL aL) aL) (aN (c7 3 rfl) aL aL)) (aN (c7 7 rfl) (aN (c7 6 rfl) (aN (c7 5 rfl) aL aL) aL) (aN (c7 8 rfl) aL aL))) (aN (c8 1 rfl) (aN (c7 12 rfl) (aN (c7 11 rfl) (aN (c7 10 rfl) aL aL) aL) (aN (.dl (c7 13 rfl) (c8 0 rfl)) aL aL)) (aN (c8 4 rfl) (aN (c8 3 rfl) (aN (c8 2 rfl) aL aL) aL) (aN (c8 5 rfl) aL aL)))) h
def acn:aC:=[.m 57092 [ck,j 1000] (j 0) (.o 28943 [v105,j 100] (j 0))
 (.o 61531 [IR,j 1000] (j 0))]
def aco:aC:=[.o 56899 [UF,.fn (.f 36) [] []] (.cp false 1 5 [j 0,j 0,j 0,j 0,j 0])]
def acp:aC:=[.o 26853 [j 2,.fn (.f 58) [] [.aO [ck],.aO [j 1],.aO [j 0]]] (Nb),
 .o 26853 [j 2,.fn (.f 41) [] [.aO [v105],.aO [ck],.aO [j 1]]] (IR)]
def acq:aC:=[.m 32083 [v75,v65] (v10) (.m 17515 [v10,v10] (v68) (.m 13339 [v11,cX] (cX) (.m 13338 [v12,cX] (v12) (.o 5093 [v70,mw] (cX))
 (.l))
 (.m 16987 [cX,cX] (v65) (.o 13342 [v76,cX] (v42))
 (.l)))
 (.m 22905 [v11,qZ] (qZ) (.m 22904 [v12,qZ] (v12) (.o 22778 [mw,v70] (cX))
 (.l))
 (.o 32081 [v76,v65] (v11))))
 (.m 47411 [v65,v12] (v12) (.m 40378 [cX,v11] (cX) (.m 40115 [cX,v12] (v12) (.o 32091 [v77,v65] (Fb))
 (.l))
 (.m 40904 [cX,v40] (v10) (.o 40641 [cX,v42] (v11))
 (.l)))
 (.m 48200 [v65,v40] (Fa) (.m 47937 [v65,v42] (cX) (.o 47674 [v65,v11] (v65))
 (.l))
 (.o 55471 [v40,UH] (v11))))]
def acr:aC:=[.m 2151 [v21] (mw) (.m 2149 [.str [51]] (v40) (.m 2147 [v4] (v11) (.o 2146 [v0] (v12))
 (.l))
 (.o 2150 [.str [52]] (v76)))
 (.m 45023 [v2] (cX) (.m 17849 [v5] (v70) (.o 14754 [v20] (v44))
 (.l))
 (.o 45025 [v1] (v10)))]
def acs:aC:=[.m 44894 [q9] (.aq [.agg [v2,v4],j 0]) (.o 14255 [px] (.aq [.agg [v0,v2],j 0]))
 (.o 52488 [v59] (.aq [.agg [v3,v0],j 0]))]
def acu:aC:=[.o 25239 [Oo,v63] (Oo)]
def acv:aC:=[.m 5365 [UG] (v69) (.m 5360 [v40] (UH) (.o 5359 [v42] (cX))
 (.o 5361 [v76] (v65)))
 (.m 5369 [v46] (UI) (.o 5367 [v44] (v70))
 (.l))]
def acw:aC:=[.m 32077 [v12,v65] (v65) (.m 13338 [v12,cX] (cX) (.m 13076 [v11,.agg [j (-1),.ab,j 2,.ab]] (cX) (.o 1265 [v69,.agg [j (-1),.ab,j 12,.ab]] (qZ))
 (.l))
 (.m 24283 [v65,cX] (Fa) (.o 16987 [cX,cX] (v11))
 (.l)))
 (.m 40117 [v10,v47] (cX) (.m 40115 [cX,v12] (cX) (.o 39677 [Fb,.agg [j (-9),.ab,j 4,.ab]] (Oi))
 (.l))
 (.o 43550 [Fa,Fa] (v10)))]
def acx:aC:=[.m 45023 [v2] (j 0) (.o 17849 [v5] (j 0))
 (.o 45025 [v1] (j 0))]
def acy:aC:=[.o 30369 [v72,.aO [v73]] (v11)]
def k9:List (Nat×aC):=[(32,acn),(35,aco),(40,acp),(49,acq),(62,acr),(65,acs),(72,acu),(73,acv),(74,acw),(86,acx),(91,acy)]
def ard:iy prog aT T3 k9=true:=by decide+kernel
def Zn:aC:=[.m 21813 [CQ] (v79) (.o 21549 [v51] (v79))
 (.l)]
def Zo:aC:=[.o 1866 [Su,.fn (.f 53) [] []] (.cp false 1 1 [j 0])]
def Zp:aC:=[.m 44566 [JR,.fn (.f 107) [] []] (.bool false) (.o 737 [Ol,.fn (.f 107) [] []] (.bool false))
 (.l)]
def Zq:aC:=[.o 2131 [v93,.aO [EG]] (j 0)]
def k10:List (Nat×aC):=[(104,Zn),(121,Zo),(122,Zp),(126,Zq)]
def aoz:iy prog aT T3 k10=true:=by decide+kernel
def t4:Tr aC:=(.n 73 acv (.n 49 acq (.n 35 aco (.n 32 acn .l .l) (.n 40 acp .l .l)) (.n 65 acs (.n 62 acr .l .l) (.n 72 acu .l .l))) (.n 104 Zn (.n 86 acx (.n 74 acw .l .l) (.n 91 acy .l .l)) (.n 122 Zp (.n 121 Zo .l .l) (.n 126 Zq .l .l))))
def T4:List (Tr aC):=t4::T3
def are {O:bq} (hO:ej O) (hp:O.prog=prog) (hl:O.aT=aT):et O T4:=by
 have h:=arc hO hp hl;have c9:=jH hO hp hl h ard;have Ov:=jH hO hp hl h aoz;exact et.cons (aN (c9 7 rfl) (aN (c9 3 rfl) (aN (c9 1 rfl) (aN (c9 0 rfl) aL aL) (aN (c9 2 rfl) aL aL)) (aN (c9 5 rfl) (aN (c9 4 rfl) aL aL) (aN (c9 6 rfl) aL aL))) (aN (Ov 0 rfl) (aN (c9 9 rfl) (aN (c9 8 rfl) aL aL) (aN (c9 10 rfl) aL aL)) (aN (Ov 2 rfl) (aN (Ov 1 rfl) aL aL) (aN (Ov 3 rfl) aL aL)))) h
def acz:aC:=[.o 32481 [ck] (j 0)]
def acA:aC:=[.o 31824 [j 1,j 2,UF] (.aq [Ss,j 0])]
def aaw:aC:=[.m 37836 [Fb,v68] (Oi) (.m 13339 [v11,cX] (cX) (.o 1528 [v69,UI] (qZ))
 (.l))
 (.m 40380 [v10,v11] (cX) (.o 40115 [cX,v12] (cX))
 (.l))]
def aax:aC:=[.m 26771 [Ot] (j 0) (.m 19734 [Oq] (j 0) (.o 19732 [.agg [v2,v0]] (j 0))
 (.l))
 (.o 58079 [.agg [v5,v0]] (j 0))]
def aay:aC:=[.m 42376 [v87] (v63) (.m 19734 [Oq] (v80) (.o 19732 [.agg [v2,v0]] (CR))
 (.o 26771 [Ot] (v82)))
 (.m 42639 [lV] (v83) (.o 42377 [v91] (Oo))
 (.o 58079 [.agg [v5,v0]] (v84)))]
def aaz:aC:=[.o 44745 [CQ,ck] (v40)]
def aaA:aC:=[.m 25846 [v21,j 0] (j 0) (.m 25845 [.str [52],j 0] (j 0) (.o 25841 [v0,j 0] (j 0))
 (.l))
 (.m 38449 [v20,j 0] (j 0) (.o 26105 [v4,j 1] (j 0))
 (.l))]
def aaB:aC:=[.o 13594 [rb,mw] (.bool true)]
def aaC:aC:=[.m 37522 [v76,v76] (v11) (.m 36996 [v76,v42] (v42) (.m 36993 [v11,v42] (cX) (.o 36992 [v12,v42] (v12))
 (.l))
 (.o 37258 [v40,v40] (v11)))
 (.m 37532 [v77,v76] (Fb) (.o 37524 [v75,v76] (v10))
 (.o 39101 [mw,v44] (cX)))]
def aaD:aC:=[.m 33840 [v84,mw] (CR) (.m 3604 [CR,v11] (CR) (.o 3341 [CR,v12] (v63))
 (.o 10745 [q9,v11] (q9)))
 (.m 49226 [v83,cX] (px) (.o 45627 [px,v11] (px))
 (.o 51652 [Oo,qZ] (v59)))]
def aaE:aC:=[.o 42377 [Su] (j 0)]
def aaF:aC:=[.m 41248 [Ol] (.aq [v93,j 0]) (.o 19556 [JR] (.aq [Fc,j 0]))
 (.l)]
def aaG:aC:=[.m 42642 [v93] (.cp true 4 2 [j 1,.ab,j 1,.ab,j 1,.ab,j 1,.ab]) (.o 3991 [v107] (.cp true 4 1 [j 3,.ab,j 1,.ab]))
 (.l)]
def aaH:aC:=[.o 2579 [.aH false 1 [On],.aO [v4]] (.cp false 1 1 [v85])]
def aaI:aC:=[.o 63847 [.aH true 2 [v72,v72],.fn (.f 91) [] [.aO [v73]]] (.cp false 4 2 [j 1,.ab,j 1,.ab,j 1,.ab,j 1,.ab])]
def Zr:aC:=[.m 61636 [v12,JR,.fn (.f 74) [] []] (cX) (.o 47668 [v12,.aH false 4 [j 0,.ab,j 1,.ab,j 1,.ab,j 4,.ab,j 1,.ab,j 2,.ab,j 3,.ab,j 4,.ab],.fn (.f 74) [] []] (v10))
 (.l)]
def Zs:aC:=[.m 12900 [q9,CR] (UJ) (.m 9251 [v83,CR] (q9) (.o 5389 [px,v63] (px))
 (.l))
 (.o 36028 [q9,v63] (q9))]
def Zt:aC:=[.o 3973 [EG,.fn (.f 126) [] [.aO [EG]]] (j 0)]
def k11:List (Nat×aC):=[(4,acz),(5,acA),(50,aaw),(53,aax),(54,aay),(56,aaz),(61,aaA),(63,aaB),(70,aaC),(75,aaD),(78,aaE),(83,aaF),(88,aaG),(89,aaH),(92,aaI),(106,Zr),(112,Zs),(127,Zt)]
def aoA:iy prog aT T4 k11=true:=by decide+kernel
def t5:Tr aC:=(.n 75 aaD (.n 54 aay (.n 50 aaw (.n 5 acA (.n 4 acz .l .l) .l) (.n 53 aax .l .l)) (.n 63 aaB (.n 61 aaA (.n 56 aaz .l .l) .l) (.n 70 aaC .l .l))) (.n 92 aaI (.n 88 aaG (.n 83 aaF (.n 78 aaE .l .l) .l) (.n 89 aaH .l .l)) (.n 112 Zs (.n 106 Zr .l .l) (.n 127 Zt .l .l))))
def T5:List (Tr aC):=t5::T4
def arf {O:bq} (hO:ej O) (hp:O.prog=prog) (hl:O.aT=aT):et O T5:=by
 have h:=are hO hp hl;have hJ:=jH hO hp hl h aoA;exact et.cons (aN (hJ 9 rfl) (aN (hJ 4 rfl) (aN (hJ 2 rfl) (aN (hJ 1 rfl) (aN (hJ 0 rfl) aL aL) aL) (aN (hJ 3 rfl) aL aL)) (aN (hJ 7 rfl) (aN (hJ 6 rfl) (aN (hJ 5 rfl) aL aL) aL) (aN (hJ 8 rfl) aL aL))) (aN (hJ 14 rfl) (aN (hJ 12 rfl) (aN (hJ 11 rfl) (aN (hJ 10 rfl) aL aL) aL) (aN (hJ 13 rfl) aL aL)) (aN (hJ 16 rfl) (aN (hJ 15 rfl) aL aL) (aN (hJ 17 rfl) aL aL)))) h
def acB:aC:=[.o 63249 [ck,v105] (.aq [IR,j 0])]
def aaJ:aC:=[.o 63729 [ck,j 1,j 0] (.aq [Nb,j 0])]
def aaK:aC:=[.o 26853 [j 2,.fn (.f 44) [] [.aO [ck]]] (v10),
 .o 26853 [j 2,.fn (.f 47) [] [.aO [ck]]] (v10),
 .o 26853 [j 2,.fn (.f 48) [] [.aO [ck]]] (Fb),
 .o 26853 [j 2,.fn (.f 52) [] [.aO [ck],.aO [j 1],.aO [j 0]]] (v11)]
def aaL:aC:=[.m 48449 [Fe] (j 0) (.o 46691 [rb] (j 0))
 (.o 64152 [zd] (j 0))]
def aaM:aC:=[.m 13425 [Fe,mw,v87] (v63) (.o 5737 [zd,mw,lV] (q9))
 (.o 53797 [rb,mw,lV] (px))]
def aaN:aC:=[.o 44484 [EG] (j 0)]
def aaO:aC:=[.o 3973 [EG,.fn (.f 88) [] []] (.cp false 1 1 [On])]
def aaP:aC:=[.o 39364 [.aH false 1 [v85],.aH true 1 [j 3,.ab,j 1,.ab]] (.cp true 4 1 [j 1,.ab,j 1,.ab])]
def Zu:aC:=[.m 33227 [cX,j 2] (.aq [j 0,cX]) (.m 29579 [v11,j 2] (.aq [j 1,v12]) (.o 29578 [v12,j 2] (.aq [j 0,v12]))
 (.l))
 (.o 33229 [v10,j 2] (.aq [j 1,cX]))]
def Zv:aC:=[.m 23891 [v48] (.agg [j 1,.ab,j 4,.ab,j 1,.ab,j 4,.ab,j 1,.ab,j 4,.ab,j 1,.ab,j 4,.ab]) (.o 13102 [CP] (.agg [j 1,.ab,j 2,.ab,j 0,.ab,j 1,.ab,j 1,.ab,j 2,.ab,j 0,.ab,j 1,.ab]))
 (.o 32339 [v53] (.agg [j 1,.ab,j 2,.ab,j 1,.ab,j 2,.ab,j 0,.ab,j 1,.ab,j 0,.ab,j 1,.ab]))]
def Zw:aC:=[.o 45199 [v109] (j 0)]
def k12:List (Nat×aC):=[(9,acB),(20,aaJ),(45,aaK),(60,aaL),(64,aaM),(84,aaN),(87,aaO),(90,aaP),(103,Zu),(104,Zv),(115,Zw)]
def aoB:iy prog aT T5 k12=true:=by decide+kernel
def t6:Tr aC:=(.n 84 aaN (.n 45 aaK (.n 20 aaJ (.n 9 acB .l .l) .l) (.n 64 aaM (.n 60 aaL .l .l) .l)) (.n 103 Zu (.n 90 aaP (.n 87 aaO .l .l) .l) (.n 115 Zw (.n 104 Zv .l .l) .l)))
def T6:List (Tr aC):=t6::T5
def arh {O:bq} (hO:ej O) (hp:O.prog=prog) (hl:O.aT=aT):et O T6:=by
 have h:=arf hO hp hl;have py:=jH hO hp hl h aoB;exact et.cons (aN (py 5 rfl) (aN (py 2 rfl) (aN (py 1 rfl) (aN (py 0 rfl) aL aL) aL) (aN (py 4 rfl) (aN (py 3 rfl) aL aL) aL)) (aN (py 8 rfl) (aN (py 7 rfl) (aN (py 6 rfl) aL aL) aL) (aN (py 10 rfl) (aN (py 9 rfl) aL aL) aL))) h
def aaQ:aC:=[.o 32481 [ck] (Nc)]
def aaR:aC:=[.o 32481 [ck] (.aq [.str [53,47,52],j 0])]
def aaS:aC:=[.o 63729 [ck,j 1,j 0] (.aq [v4,j 0])]
def aaT:aC:=[.m 61077 [rb,v21,lV] (.aq [.agg [v0,v2],j 0]) (.o 13017 [zd,v21,lV] (.aq [.agg [v2,v4],j 0]))
 (.l)]
def aaU:aC:=[.o 12660 [rb,.str [52],v87,v91] (.aq [.agg [v3,v0],j 0])]
def aaV:aC:=[.o 53661 [EG,v107,v4] (.aq [v93,j 0])]
def aaW:aC:=[.m 58325 [v63,j 2] (v51) (.m 42125 [v82,j 2] (v48) (.o 38476 [px,j 2] (CP))
 (.l))
 (.m 65467 [UJ,j 2] (CQ) (.o 61976 [v80,j 2] (v53))
 (.l))]
def aaX:aC:=[.m 46823 [v48,ck] (v10) (.o 36034 [CP,ck] (v11))
 (.o 55271 [v53,ck] (cX))]
def aaY:aC:=[.m 62507 [v109,rb,lV,j 0] (j 0) (.o 44889 [v109,zd,lV,j 1] (j 0))
 (.l)]
def aaZ:aC:=[.o 7939 [.aH true 1 [v0,v0,v0],.fn (.f 60) [] []] (.cp false 1 1 [j 0])]
def Zx:aC:=[.m 44889 [v109,zd,lV,j 1] (UJ) (.o 24084 [v109,Fe,v87,j 0] (v63))
 (.o 62507 [v109,rb,lV,j 0] (px))]
def Zy:aC:=[.o 4689 [IS,.fn (.f 115) [] []] (.cp false 1 1 [j 0])]
def k13:List (Nat×aC):=[(16,aaQ),(17,aaR),(18,aaS),(22,aaT),(25,aaU),(27,aaV),(55,aaW),(56,aaX),(66,aaY),(77,aaZ),(116,Zx),(120,Zy)]
def aoC:iy prog aT T6 k13=true:=by decide+kernel
def t7:Tr aC:=(.n 55 aaW (.n 22 aaT (.n 17 aaR (.n 16 aaQ .l .l) (.n 18 aaS .l .l)) (.n 27 aaV (.n 25 aaU .l .l) .l)) (.n 77 aaZ (.n 66 aaY (.n 56 aaX .l .l) .l) (.n 120 Zy (.n 116 Zx .l .l) .l)))
def T7:List (Tr aC):=t7::T6
def ari {O:bq} (hO:ej O) (hp:O.prog=prog) (hl:O.aT=aT):et O T7:=by
 have h:=arh hO hp hl;have oB:=jH hO hp hl h aoC;exact et.cons (aN (oB 6 rfl) (aN (oB 3 rfl) (aN (oB 1 rfl) (aN (oB 0 rfl) aL aL) (aN (oB 2 rfl) aL aL)) (aN (oB 5 rfl) (aN (oB 4 rfl) aL aL) aL)) (aN (oB 9 rfl) (aN (oB 8 rfl) (aN (oB 7 rfl) aL aL) aL) (aN (oB 11 rfl) (aN (oB 10 rfl) aL aL) aL))) h
def aa0:aC:=[.m 60666 [ck,Ot] (Nc) (.o 44523 [ck,Oq] (.aq [v2,j 0]))
 (.l)]
def aa1:aC:=[.m 62507 [v109,rb,lV,j 0] (cX) (.o 44889 [v109,zd,lV,j 1] (v10))
 (.l)]
def aa2:aC:=[.o 45200 [IS] (j 0)]
def aa3:aC:=[.o 45043 [IS,Fe,v87,j 0,j 4] (.cp false 4 4 [j 1,.ab,j 2,.ab,j 0,.ab,j 1,.ab,j 0,.ab,j 1,.ab,j 0,.ab,j 1,.ab])]
def k14:List (Nat×aC):=[(19,aa0),(67,aa1),(76,aa2),(82,aa3)]
def aoD:iy prog aT T7 k14=true:=by decide+kernel
def t8:Tr aC:=(.n 76 aa2 (.n 67 aa1 (.n 19 aa0 .l .l) .l) (.n 82 aa3 .l .l))
def T8:List (Tr aC):=t8::T7
def arj {O:bq} (hO:ej O) (hp:O.prog=prog) (hl:O.aT=aT):et O T8:=by
 have h:=ari hO hp hl;have Ow:=jH hO hp hl h aoD;exact et.cons (aN (Ow 2 rfl) (aN (Ow 1 rfl) (aN (Ow 0 rfl) aL aL) aL) (aN (Ow 3 rfl) aL aL)) h
def aa4:aC:=[.m 62507 [v109,rb,lV,j 0] (.aq [v2,j 0]) (.o 44889 [v109,zd,lV,j 1] (Nc))
 (.l)]
def aa5:aC:=[.o 27996 [IS,.aH true 1 [v0,v0,v0],Su,j 0] (.aq [.cp false 1 1 [Fc],j 0])]
def k15:List (Nat×aC):=[(24,aa4),(26,aa5)]
def aoE:iy prog aT T8 k15=true:=by decide+kernel
def t9:Tr aC:=(.n 26 aa5 (.n 24 aa4 .l .l) .l)
def T9:List (Tr aC):=t9::T8
def ark {O:bq} (hO:ej O) (hp:O.prog=prog) (hl:O.aT=aT):et O T9:=by
 have h:=arj hO hp hl;have c15:=jH hO hp hl h aoE;exact et.cons (aN (c15 1 rfl) (aN (c15 0 rfl) aL aL) aL) h
def acC:aC:=[.o 7 [] (.bool true)]
def k16:List (Nat×aC):=[(1,acC)]
def aoF:iy prog aT T9 k16=true:=by decide+kernel
def t10:Tr aC:=(.n 1 acC .l .l)
def T10:List (Tr aC):=t10::T9
def aoG {O:bq} (hO:ej O) (hp:O.prog=prog) (hl:O.aT=aT):et O T10:=by
 have h:=ark hO hp hl;have c16:=jH hO hp hl h aoF;exact et.cons (aN (c16 0 rfl) aL aL) h
def holds {O:bq} (hO:ej O) (hp:O.prog=prog) (hl:O.aT=aT):ez O 1 [] (.bool true):=Tr.Bt (aoG hO hp hl t10 (.head _)) (i:=1) rfl _ _ ⟨_,.head _,.inl rfl⟩
end VK1
end VE
