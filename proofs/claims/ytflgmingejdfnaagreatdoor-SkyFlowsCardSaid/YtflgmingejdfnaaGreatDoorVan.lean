import Derived.Test.YtflgmingejdfnaaGreatDoorVam
import Derived.Test.YtflgmingejdfnaaGreatDoorVal
set_option linter.all false
set_option maxRecDepth 100000
namespace VE
namespace VK1
def T0:List (Tr aC):=[]
def asu {O:bw} (_hO:eH O) (_hp:O.prog=prog) (_hl:O.aU=aU):eL O T0:=eL.nil
abbrev j (n:Int):AV:= .int .i64 n
abbrev u (n:Nat):AV:= .int .u64 n
def w (l:List Nat):AV:= .aE true l.length (l.map u)
def v0:AV:= .str [48]
def v1:AV:= .str [51,47,50]
def v2:AV:= .str [49,47,50]
def v3:AV:= .str [49,47,50,52]
def v4:AV:= .str [49]
def v5:AV:= .str [49,47,49,48]
def v6:AV:= .aE true 2 [j 0,j 1]
def v7:AV:= .aE true 2 [j 2,j 3]
def v8:AV:= .aE true 3 [j 0,j 0,j 0]
def v9:AV:= .aE true 4 [j 0,j 0,j 0,j 0]
def v10:AV:= .agg [j 3,.ab,j 2,.ab]
def v11:AV:= .agg [j 1,.ab,j 1,.ab]
def v12:AV:= .agg [j 0,.ab,j 1,.ab]
def di:AV:= .agg [j 1,.ab,j 2,.ab]
def se:AV:= .agg [j 1,.ab,j 24,.ab]
def OM:AV:= .agg [j 5,.ab,j 4,.ab]
def U8:AV:= .aE true 2 [j 3,j 2]
def ON:AV:= .aE true 2 [j 1,j 2]
def U9:AV:= .aE true 2 [j 1,j 0]
def Ft:AV:= .aE true 2 [j 2,j 4]
def v20:AV:= .str [49,48]
def v21:AV:= .str [53]
def v22:AV:= .agg [j 1,.ab]
def dT:AV:= .agg [j 3,.ab]
def v24:AV:= .agg [j 6,.ab]
def v25:AV:= .agg [j 2,.ab]
def bS:AV:= .agg [j 0,.ab]
def v27:AV:= .agg [j 4,.ab]
def v28:AV:= .agg [j 5,.ab]
def Fu:AV:= .agg [j 14,.ab]
def v30:AV:= .agg [j 10,.ab]
def v31:AV:= .agg [j 8,.ab]
def Fv:AV:= .agg [j (-1),.ab]
def v33:AV:= .agg [j 12,.ab]
def Fw:AV:= .agg [j 9,.ab]
def v35:AV:= .agg [j 16,.ab]
def v36:AV:= .agg [j 96,.ab]
def v37:AV:= .agg [j 100,.ab]
def v38:AV:= .agg [j 24,.ab]
def Va:AV:= .agg [j (-2),.ab]
def v40:AV:= .agg [j 3,.ab,j 1,.ab]
def Vb:AV:= .aE true 5 [j 1,j 1,j 1,j 1,j 1]
def v42:AV:= .agg [j 2,.ab,j 1,.ab]
def ni:AV:= .agg [j 5,.ab,j 1,.ab]
def v44:AV:= .agg [j 10,.ab,j 1,.ab]
def Vc:AV:= .agg [j 8,.ab,j 1,.ab]
def v46:AV:= .agg [j 12,.ab,j 1,.ab]
def v47:AV:= .agg [j (-1),.ab,j 1,.ab]
def v48:AV:= .agg [j 0,j 0,j 1,.ab,j 2,.ab,j 1,.ab,j 2,.ab]
def v49:AV:= .aq [j 1,j 0]
def JY:AV:= .aq [j 0,j 0]
def v51:AV:= .agg [j 0,j 0,j 0,.ab,j 1,.ab,j 0,.ab,j 1,.ab]
def Di:AV:= .agg [j 0,j 0,j 0,.ab,j 1,.ab,j 1,.ab,j 2,.ab]
def v53:AV:= .agg [j 1,j 0,j 1,.ab,j 2,.ab,j 0,.ab,j 1,.ab]
def JZ:AV:= .aq [j 1,j 1]
def J0:AV:= .aq [j 0,j 1]
def Dj:AV:= .agg [j 1,j 1,j 0,.ab,j 1,.ab,j 0,.ab,j 1,.ab]
def sf:AV:= .agg [j 1,.ab,j 2,.ab,j 1,.ab,j 1,.ab]
def qw:AV:= .agg [j 0,.ab,j 1,.ab,j 1,.ab,j 2,.ab]
def v59:AV:= .agg [j 1,.ab,j 24,.ab,j 0,.ab,j 1,.ab]
def OO:AV:= .aE false 2 [j 1,.ab,j 1,.ab,j 1,.ab,j 1,.ab]
def J3:AV:= .aE false 4 [j 1,.ab,j 2,.ab,j 0,.ab,j 1,.ab,j 0,.ab,j 1,.ab,j 0,.ab,j 1,.ab]
def OP:AV:= .aE true 3 [j 0,j 1,j 0]
def v63:AV:= .agg [j 0,.ab,j 1,.ab,j 0,.ab,j 1,.ab]
def Vd:AV:= .agg [j 1,.ab,j 3,.ab]
def v65:AV:= .agg [j 1,.ab,j 4,.ab]
def Fx:AV:= .agg [j 3,.ab,j 4,.ab]
def Fy:AV:= .agg [j 7,.ab,j 2,.ab]
def v68:AV:= .agg [j 9,.ab,j 4,.ab]
def v69:AV:= .agg [j 1,.ab,j 8,.ab]
def v70:AV:= .agg [j 1,.ab,j 10,.ab]
def Ve:AV:= .agg [j 1,.ab,j 12,.ab]
def v72:AV:= .aE false 1 [j 1,.ab,j 1,.ab]
def v73:AV:= .aE true 1 [j 1,.ab,j 1,.ab]
def OQ:AV:= .aE true 2 [j 1,.ab,j 1,.ab,j 1,.ab,j 1,.ab]
def v75:AV:= .agg [j 6,.ab,j 1,.ab]
def v76:AV:= .agg [j 4,.ab,j 1,.ab]
def v77:AV:= .agg [j 14,.ab,j 1,.ab]
def OR:AV:= .agg [j 1,.ab,j 1,.ab,j 0,.ab,j 1,.ab]
def v79:AV:= .agg [j 1,.ab,j 1,.ab,j 0,.ab,j 1,.ab,j 0,.ab,j 1,.ab,j 0,.ab,j 1,.ab]
def v80:AV:= .agg [j 3,.ab,j 2,.ab,j 0,.ab,j 1,.ab]
def Dk:AV:= .agg [j 1,.ab,j 2,.ab,j 0,.ab,j 1,.ab]
def v82:AV:= .agg [j 1,.ab,j 2,.ab,j 1,.ab,j 2,.ab]
def v83:AV:= .agg [j 0,.ab,j 1,.ab,j 1,.ab,j 1,.ab]
def v84:AV:= .agg [j 1,.ab,j 10,.ab,j 0,.ab,j 1,.ab]
def v85:AV:= .aE false 1 [j 3,.ab,j 1,.ab]
def Vf:AV:= .agg [j 1,.ab,j 1,.ab,j 1,.ab,j 1,.ab]
def v87:AV:= .agg [v0,v0]
def OS:AV:= .agg [v1,v0]
def OT:AV:= .agg [v2,v2]
def mF:AV:= .agg [v0,v4]
def v91:AV:= .agg [v4,v0]
def cr:AV:= .aE true 2 [v6,v7]
def v93:AV:= .aE true 2 [v4,v4]
def Fz:AV:= .aE true 4 [v2,v0,v0,v0]
def FA:AV:= .agg [v0,v0,v0]
def sj:AV:= .agg [v0,v0,v20]
def Ad:AV:= .agg [v5,v0,v0]
def OU:AV:= .aq [bS,bS]
def FB:AV:= .aq [v22,bS]
def Nz:AV:= .aq [v25,bS]
def CS:AV:= .aq [bS,v22]
def I6:AV:= .aE true 2 [Ft,Ft]
def NA:AV:= .aE true 2 [U9,U8]
def SY:AV:= .aE true 2 [ON,ON]
def v105:AV:= .aE true 3 [OP,OP,v8]
def NB:AV:= .aq [v1,j 0]
def v107:AV:= .aE true 1 [.str [51]]
def SZ:AV:= .aE true 1 [v0,v0]
def v109:AV:= .agg [cr,v21,v4,v2,v0,v0,v2,v0]
def I7:AV:= .aE true 1 [cr,v21,v4,v2,v0,v0,v2,v0]
def EY:AV:= .aE true 1 [v93]
def adq:aC:=[.m 40535 [v0,v0] (v87) (.m 17893 [v1,v0] (OS) (.m 17891 [v2,v0] (.agg [v2,v0]) (.o 9861 [v3,v0] (.agg [v3,v0]))
 (.l))
 (.m 24930 [v2,v2] (OT) (.o 18154 [v2,v4] (.agg [v2,v4]))
 (.l)))
 (.m 47574 [v0,v2] (.agg [v0,v2]) (.m 40798 [v0,v4] (mF) (.o 40536 [v4,v0] (v91))
 (.l))
 (.o 56238 [v5,v0] (.agg [v5,v0])))]
def adr:aC:=[.o 7 [] (cr)]
def ads:aC:=[.m 51556 [v93,v93] (.bool true) (.o 30452 [Fz,Fz] (.bool true))
 (.l)]
def adt:aC:=[.m 28694 [.bool false,j 12] (j 0) (.m 26327 [.bool false,j 3] (j 0) (.o 26064 [.bool false,j 2] (j 0))
 (.o 26853 [.bool false,j 5] (j 0)))
 (.m 33691 [.bool false,j 31] (j 0) (.o 28957 [.bool false,j 13] (j 0))
 (.l))]
def adu:aC:=[.m 34670 [v8] (j 0) (.m 9480 [.aE true 6 [j 0,j 0,j 0,j 0,j 0,j 0]] (j 0) (.o 3683 [.aE false 1 [j 0]] (j 0))
 (.o 27379 [.aE true 2 [j 0,j 0]] (j 0)))
 (.m 51832 [v9] (j 0) (.o 44227 [.aE true 5 [j 0,j 0,j 0,j 0,j 0]] (j 0))
 (.l)),
 .o 44227 [.aE false 5 [j 0,j 0,j 0,j 0,j 0]] (j 0)]
def adv:aC:=[.m 25801 [j 2,j 1] (j 3) (.m 25800 [j 1,j 1] (j 2) (.o 25799 [j 0,j 1] (j 1))
 (.l))
 (.m 25803 [j 4,j 1] (j 5) (.o 25802 [j 3,j 1] (j 4))
 (.l))]
def adw:aC:=[.m 51329 [j 0,j 1,.aF [cr]] (j 2) (.m 51067 [j 1,j 0,.aF [cr]] (j 1) (.o 51066 [j 0,j 0,.aF [cr]] (j 0))
 (.l))
 (.o 51330 [j 1,j 1,.aF [cr]] (j 3))]
def adx:aC:=[.m 9008 [v10] (v1) (.m 5358 [v11] (v4) (.o 5357 [v12] (v0))
 (.o 9006 [di] (v2)))
 (.m 23741 [se] (v3) (.o 16306 [OM] (.str [53,47,52]))
 (.l))]
def ady:aC:=[.m 51329 [j 0,j 1,.aF [cr]] (j 2) (.m 51067 [j 1,j 0,.aF [cr]] (j 1) (.o 51066 [j 0,j 0,.aF [cr]] (j 0))
 (.l))
 (.o 51330 [j 1,j 1,.aF [cr]] (j 3))]
def adz:aC:=[.m 51329 [j 0,j 1,.aF [cr]] (j 4) (.m 51067 [j 1,j 0,.aF [cr]] (j 1) (.o 51066 [j 0,j 0,.aF [cr]] (j 0))
 (.l))
 (.o 51330 [j 1,j 1,.aF [cr]] (j 9))]
def adA:aC:=[.m 27519 [U8,U8] (.bool true) (.m 26991 [ON,ON] (.bool true) (.o 19169 [U9,U9] (.bool true))
 (.l))
 (.o 35077 [Ft,Ft] (.bool true))]
def adB:aC:=[.m 48449 [FA] (.bool true) (.o 46691 [sj] (.bool false))
 (.o 64152 [Ad] (.bool true))]
def adC:aC:=[.o 45199 [v109] (j 4)]
def adD:aC:=[.o 26588 [j 0,j 4] (j 4)]
def adE:aC:=[.m 26852 [j 1,.aF [j 1000]] (.bool false) (.o 26851 [j 0,.aF [j 1000]] (.bool false))
 (.l)]
def k0:List (Nat×aC):=[(14,adq),(15,adr),(29,ads),(31,adt),(33,adu),(38,adv),(44,adw),(46,adx),(47,ady),(48,adz),(59,adA),(68,adB),(80,adC),(81,adD),(94,adE)]
def asv:iG prog aU T0 k0=true:=by decide+kernel
def adF:aC:=[.m 26853 [j 2,.aF [j 1000]] (.bool false) (.m 26852 [j 1,.aF [j 100]] (.bool false) (.o 26851 [j 0,.aF [j 100]] (.bool false))
 (.l))
 (.m 26855 [j 4,.aF [j 1000]] (.bool false) (.o 26854 [j 3,.aF [j 1000]] (.bool false))
 (.l))]
def adG:aC:=[.m 1844 [j 3] (.fn (.f 133) [] [.aF [j 3]]) (.o 1843 [j 2] (.fn (.f 133) [] [.aF [j 2]]))
 (.l)]
def abu:aC:=[.m 38722 [v22,dT] (dT) (.m 38201 [v24,v22] (v24) (.m 38196 [v22,v22] (v22) (.m 37934 [v25,bS] (bS) (.m 37933 [v22,bS] (bS) (.o 37932 [bS,bS] (bS))
 (.l))
 (.o 38195 [bS,v22] (bS)))
 (.m 38199 [v27,v22] (v27) (.m 38198 [dT,v22] (dT) (.o 38197 [v25,v22] (v25))
 (.l))
 (.o 38200 [v28,v22] (v28))))
 (.m 38460 [v25,v25] (v27) (.m 38458 [bS,v25] (bS) (.m 38209 [Fu,v22] (Fu) (.o 38205 [v30,v22] (v30))
 (.l))
 (.o 38459 [v22,v25] (v25)))
 (.m 38474 [.agg [j (-9),.ab],v25] (.agg [j (-18),.ab]) (.o 38462 [v27,v25] (v31))
 (.o 38721 [bS,dT] (bS)))))
 (.m 40036 [Fv,v31] (.agg [j (-8),.ab]) (.m 38987 [dT,v27] (v33) (.m 38985 [v22,v27] (v27) (.m 38984 [bS,v27] (bS) (.o 38724 [dT,dT] (Fw))
 (.l))
 (.o 38986 [v25,v27] (v31)))
 (.m 39247 [bS,v28] (bS) (.m 38991 [.agg [j 7,.ab],v27] (.agg [j 28,.ab]) (.o 38988 [v27,v27] (v35))
 (.l))
 (.o 39248 [v22,v28] (v28))))
 (.m 41096 [v31,v33] (v36) (.m 40572 [v30,v30] (v37) (.m 40563 [v22,v30] (v30) (.o 40562 [bS,v30] (bS))
 (.l))
 (.o 41089 [v22,v33] (v33)))
 (.m 64232 [bS,v37] (bS) (.o 44245 [v22,v38] (v38))
 (.o 64233 [v22,v37] (v37))))),
 .m 38458 [Fv,v25] (Va) (.o 38195 [Fv,v22] (Fv))
 (.l)]
def abv:aC:=[.m 38196 [v22,v22] (v11) (.o 38195 [bS,v22] (v12))
 (.o 38198 [dT,v22] (v40))]
def abw:aC:=[.m 40564 [v25,v30] (j (-1)) (.o 38196 [v22,v22] (j 0))
 (.o 40567 [v28,v30] (j (-1)))]
def abx:aC:=[.m 38458 [bS,v25] (v25) (.m 37934 [v25,Fv] (v22) (.m 37933 [v22,bS] (v22) (.o 37932 [bS,bS] (bS))
 (.l))
 (.o 38195 [bS,v22] (v22)))
 (.m 41100 [v33,v33] (v38) (.o 38986 [v25,v27] (v24))
 (.o 46902 [.agg [j 28,.ab],.agg [j (-18),.ab]] (v30)))]
def k1:List (Nat×aC):=[(94,adF),(96,adG),(100,abu),(101,abv),(118,abw),(119,abx)]
def asw:iG prog aU T0 k1=true:=by decide+kernel
def aby:aC:=[.m 38468 [v30,Va] (v31) (.m 38197 [v25,v22] (dT) (.m 37935 [dT,bS] (dT) (.o 37933 [v22,Fv] (bS))
 (.o 38196 [v22,v22] (v25)))
 (.m 38461 [dT,Va] (v22) (.o 38460 [v25,v25] (v27))
 (.l)))
 (.m 39247 [bS,v28] (v28) (.m 38984 [bS,v27] (v27) (.o 38721 [bS,dT] (dT))
 (.l))
 (.m 41626 [v33,.agg [j (-8),.ab]] (v27) (.o 40562 [bS,v30] (v30))
 (.l))),
 .o 38468 [v30,v25] (v33)]
def abz:aC:=[.m 26590 [.bool false,j 4] (j 0) (.m 26064 [.bool false,j 2] (j 0) (.o 25801 [.bool false,j 1] (j 0))
 (.l))
 (.m 28694 [.bool false,j 12] (j 0) (.o 26853 [.bool false,j 5] (j 0))
 (.l))]
def abA:aC:=[.m 51832 [v9] (j 0) (.o 27379 [.aE true 2 [j 0,j 0]] (j 0))
 (.l)]
def abB:aC:=[.m 2149 [.str [51]] (.bool true) (.m 2147 [v4] (.bool true) (.o 2146 [v0] (.bool true))
 (.o 2148 [.str [50]] (.bool true)))
 (.m 2151 [v21] (.bool true) (.o 2150 [.str [52]] (.bool true))
 (.o 14754 [v20] (.bool true)))]
def abC:aC:=[.m 26063 [j 1,j 2] (j 1) (.o 26062 [j 0,j 2] (j 0))
 (.o 26064 [j 2,j 2] (j 0)),
 .o 26062 [j (-1),j 2] (j 1)]
def abD:aC:=[.m 28694 [v25] (.bool false) (.m 28693 [v22] (.bool false) (.o 28692 [bS] (.bool false))
 (.l))
 (.m 28716 [v38] (.bool false) (.o 28695 [dT] (.bool false))
 (.l))]
def abE:aC:=[.m 38468 [v30,v25] (.aq [v28,bS]) (.m 38458 [bS,v25] (OU) (.m 38198 [dT,v22] (.aq [dT,bS]) (.m 38196 [v22,v22] (FB) (.o 38195 [bS,v22] (OU))
 (.o 38197 [v25,v22] (Nz)))
 (.m 38204 [Fw,v22] (.aq [Fw,bS]) (.o 38199 [v27,v22] (.aq [v27,bS]))
 (.l)))
 (.m 38462 [v27,v25] (Nz) (.m 38460 [v25,v25] (FB) (.o 38459 [v22,v25] (CS))
 (.l))
 (.m 38466 [v31,v25] (.aq [v27,bS]) (.o 38464 [v24,v25] (.aq [dT,bS]))
 (.l))))
 (.m 38987 [dT,v27] (.aq [bS,dT]) (.m 38984 [bS,v27] (OU) (.m 38725 [v27,dT] (.aq [v22,v22]) (.o 38472 [Fu,v25] (.aq [.agg [j 7,.ab],bS]))
 (.l))
 (.m 38986 [v25,v27] (.aq [bS,v25]) (.o 38985 [v22,v27] (CS))
 (.l)))
 (.m 38993 [Fw,v27] (.aq [v25,v22]) (.m 38990 [v24,v27] (.aq [v22,v25]) (.o 38988 [v27,v27] (FB))
 (.l))
 (.m 40046 [v30,v31] (.aq [v22,v25]) (.o 38998 [Fu,v27] (.aq [dT,v25]))
 (.l))))]
def k2:List (Nat×aC):=[(119,aby),(124,abz),(125,abA),(129,abB),(134,abC),(151,abD),(164,abE)]
def asx:iG prog aU T0 k2=true:=by decide+kernel
def abF:aC:=[.m 40037 [v22,v31] (CS) (.m 38722 [v22,dT] (CS) (.m 38207 [v33,v22] (.aq [v33,bS]) (.m 38205 [v30,v22] (.aq [v30,bS]) (.o 38203 [v31,v22] (.aq [v31,bS]))
 (.l))
 (.m 38461 [dT,v25] (.aq [v22,v22]) (.o 38219 [v38,v22] (.aq [v38,bS]))
 (.l)))
 (.m 39252 [v28,v28] (FB) (.m 39080 [v36,v27] (.aq [v38,bS]) (.o 38724 [dT,dT] (FB))
 (.l))
 (.m 39518 [v31,v24] (.aq [v22,v25]) (.o 39257 [v30,v28] (Nz))
 (.l))))
 (.m 41089 [v22,v33] (CS) (.m 40060 [v38,v31] (.aq [dT,bS]) (.m 40052 [v35,v31] (Nz) (.o 40042 [v24,v31] (.aq [bS,v24]))
 (.l))
 (.m 40567 [v28,v30] (.aq [bS,v28]) (.o 40563 [v22,v30] (CS))
 (.l)))
 (.m 44245 [v22,v38] (CS) (.m 44244 [bS,v38] (OU) (.o 42164 [v38,v35] (.aq [v22,v31]))
 (.l))
 (.m 63184 [v27,v36] (.aq [bS,v27]) (.o 44268 [v38,v38] (FB))
 (.l))))]
def k3:List (Nat×aC):=[(164,abF)]
def asy:iG prog aU T0 k3=true:=by decide+kernel
def t1:Tr aC:=(.n 81 adD (.n 44 adw (.n 31 adt (.n 15 adr (.n 14 adq .l .l) (.n 29 ads .l .l)) (.n 38 adv (.n 33 adu .l .l) .l)) (.n 59 adA (.n 47 ady (.n 46 adx .l .l) (.n 48 adz .l .l)) (.n 80 adC (.n 68 adB .l .l) .l))) (.n 124 abz (.n 101 abv (.n 96 adG (.n 94 (adE++adF) .l .l) (.n 100 abu .l .l)) (.n 119 (abx++aby) (.n 118 abw .l .l) .l)) (.n 134 abC (.n 129 abB (.n 125 abA .l .l) .l) (.n 164 (abE++abF) (.n 151 abD .l .l) .l))))
def T1:List (Tr aC):=t1::T0
def asz {O:bw} (hO:eH O) (hp:O.prog=prog) (hl:O.aU=aU):eL O T1:=by
 have h:=asu hO hp hl;have c0:=kB hO hp hl h asv;have c1:=kB hO hp hl h asw;have c2:=kB hO hp hl h asx;have c3:=kB hO hp hl h asy;exact eL.cons (aN (c0 13 rfl) (aN (c0 6 rfl) (aN (c0 3 rfl) (aN (c0 1 rfl) (aN (c0 0 rfl) aL aL) (aN (c0 2 rfl) aL aL)) (aN (c0 5 rfl) (aN (c0 4 rfl) aL aL) aL)) (aN (c0 10 rfl) (aN (c0 8 rfl) (aN (c0 7 rfl) aL aL) (aN (c0 9 rfl) aL aL)) (aN (c0 12 rfl) (aN (c0 11 rfl) aL aL) aL))) (aN (c2 1 rfl) (aN (c1 3 rfl) (aN (c1 1 rfl) (aN (.dH (c0 14 rfl) (c1 0 rfl)) aL aL) (aN (c1 2 rfl) aL aL)) (aN (.dH (c1 5 rfl) (c2 0 rfl)) (aN (c1 4 rfl) aL aL) aL)) (aN (c2 4 rfl) (aN (c2 3 rfl) (aN (c2 2 rfl) aL aL) aL) (aN (.dH (c2 6 rfl) (c3 0 rfl)) (aN (c2 5 rfl) aL aL) aL)))) h
def adH:aC:=[.m 47931 [I6,I6] (.bool true) (.o 9899 [NA,NA] (.bool true))
 (.l),
 .o 9899 [SY,SY] (.bool true)]
def adI:aC:=[.o 7 [] (v109)]
def adJ:aC:=[.o 58093 [.aE false 1 [Fz],.aE true 1 [Fz]] (.bool true)]
def adK:aC:=[.m 43068 [j 1,j 1,j 2147483646] (j 0) (.m 25938 [j 2,j 1,j 16] (j 0) (.o 11651 [j 1,j 0,j 1000] (j 0))
 (.l))
 (.m 55041 [j 1,j (-999999999),j 999999999] (j 0) (.o 55040 [j 0,j (-999999999),j 999999999] (j 0))
 (.l))]
def adL:aC:=[.m 25649 [j 0,Vb,.fn (.f 38) [] []] (j 5) (.o 12396 [j 0,.aE false 1 [j 4],.fn (.f 81) [] []] (j 4))
 (.l)]
def adM:aC:=[.m 36730 [v11,v11] (v11) (.m 36468 [v42,v12] (v12) (.m 36467 [v11,v12] (v12) (.o 36466 [v12,v12] (v12))
 (.l))
 (.o 36729 [v12,v11] (v12)))
 (.m 37256 [v11,v40] (v40) (.m 37255 [v12,v40] (v12) (.o 36992 [v12,v42] (v12))
 (.l))
 (.o 37781 [v12,ni] (v12)))]
def adN:aC:=[.m 31055 [Ad,ni] (.bool true) (.o 15352 [FA,ni] (.bool true))
 (.l)]
def adO:aC:=[.m 39101 [ni,v44] (j (-1)) (.o 39098 [v42,v44] (j (-1)))
 (.l)]
def adP:aC:=[.m 36730 [v11,v11] (v42) (.m 36469 [v40,v12] (v40) (.m 36467 [v11,v12] (v11) (.o 36466 [v12,v12] (v12))
 (.l))
 (.o 36729 [v12,v11] (v11)))
 (.m 37002 [v44,.agg [j (-2),.ab,j 1,.ab]] (Vc) (.o 36731 [v42,v11] (v40))
 (.o 37255 [v12,v40] (v40))),
 .m 37002 [v44,v42] (v46) (.o 36467 [v11,v47] (v12))
 (.l)]
def adQ:aC:=[.o 4689 [I7,.fn (.f 80) [] []] (.cG false 1 1 [j 4])]
def adR:aC:=[.m 2150 [.str [52]] (j 0) (.m 2147 [v4] (j 0) (.o 2146 [v0] (j 0))
 (.o 2149 [.str [51]] (j 0)))
 (.m 14754 [v20] (j 0) (.o 2151 [v21] (j 0))
 (.l))]
def adS:aC:=[.m 5504 [cr,j 1,j 2] (j 1) (.m 2119 [cr,j 2,j 1] (j 2) (.m 1856 [cr,j 1,j 1] (j 3) (.o 1593 [cr,j (-1),j 1] (j 3))
 (.l))
 (.o 5241 [cr,j (-1),j 2] (j 1)))
 (.m 63729 [cr,j 1,j 0] (j 1) (.m 63466 [cr,j (-1),j 0] (j 1) (.o 5767 [cr,j 2,j 2] (j 0))
 (.l))
 (.o 63992 [cr,j 2,j 0] (j 0))),
 .m 63466 [cr,j 0,j 0] (j 0) (.m 5241 [cr,j 0,j 2] (j 0) (.o 1593 [cr,j 0,j 1] (j 2))
 (.l))
 (.m 63992 [cr,j 2,j (-1)] (j 2) (.o 63729 [cr,j 1,j (-1)] (j 3))
 (.l)),
 .o 63466 [cr,j (-1),j (-1)] (j 3),
 .o 63466 [cr,j 0,j (-1)] (j 2)]
def abG:aC:=[.m 62435 [v48,j 1,j 2] (v49) (.o 62172 [v48,j 0,j 2] (JY))
 (.l)]
def k4:List (Nat×aC):=[(21,adH),(23,adI),(28,adJ),(34,adK),(37,adL),(49,adM),(63,adN),(71,adO),(74,adP),(79,adQ),(86,adR),(97,adS),(105,abG)]
def asA:iG prog aU T1 k4=true:=by decide+kernel
def abH:aC:=[.m 60093 [v51,j 1,j 2] (v49) (.m 51383 [Di,j 0,j 2] (JY) (.m 5625 [v53,j 2,j 2] (JZ) (.m 5362 [v53,j 1,j 2] (JY) (.o 5099 [v53,j 0,j 2] (v49))
 (.l))
 (.o 5888 [v53,j 3,j 2] (J0)))
 (.m 52172 [Di,j 3,j 2] (JZ) (.m 51909 [Di,j 2,j 2] (J0) (.o 51646 [Di,j 1,j 2] (v49))
 (.l))
 (.o 59830 [v51,j 0,j 2] (JY))))
 (.m 60620 [Dj,j 2,j 2] (v49) (.m 60357 [Dj,j 1,j 2] (J0) (.m 60356 [v51,j 2,j 2] (J0) (.o 60094 [Dj,j 0,j 2] (JZ))
 (.l))
 (.o 60619 [v51,j 3,j 2] (JZ)))
 (.m 62698 [v48,j 2,j 2] (J0) (.o 60883 [Dj,j 3,j 2] (JY))
 (.o 62961 [v48,j 3,j 2] (JZ))))]
def abI:aC:=[.m 9006 [di] (.bool false) (.m 5358 [v11] (.bool false) (.o 5357 [v12] (.bool false))
 (.l))
 (.m 23741 [se] (.bool false) (.o 9008 [v10] (.bool false))
 (.l))]
def abJ:aC:=[.m 44894 [sf] (.agg [v2,v4]) (.o 14255 [qw] (.agg [v0,v2]))
 (.o 52488 [v59] (.agg [v3,v0]))]
def abK:aC:=[.m 41248 [OO] (.cG true 1 2 [v4,v4]) (.o 19556 [J3] (.cG true 1 4 [v2,v0,v0,v0]))
 (.l)]
def abL:aC:=[.m 38990 [v24,v27] (v25) (.m 38724 [dT,dT] (dT) (.m 38461 [dT,v25] (v22) (.m 38459 [v22,v25] (v22) (.o 38458 [bS,v25] (v25))
 (.o 38460 [v25,v25] (v25)))
 (.m 38722 [v22,dT] (v22) (.o 38462 [v27,v25] (v25))
 (.l)))
 (.m 38986 [v25,v27] (v25) (.m 38985 [v22,v27] (v22) (.o 38984 [bS,v27] (v27))
 (.l))
 (.m 38988 [v27,v27] (v27) (.o 38987 [dT,v27] (v22))
 (.l))))
 (.m 40567 [v28,v30] (v28) (.m 40042 [v24,v31] (v25) (.m 38998 [Fu,v27] (v25) (.o 38993 [Fw,v27] (v22))
 (.o 40037 [v22,v31] (v22)))
 (.m 40563 [v22,v30] (v22) (.o 40046 [v30,v31] (v25))
 (.l)))
 (.m 44244 [bS,v38] (v38) (.m 42164 [v38,v35] (v31) (.o 41089 [v22,v33] (v22))
 (.l))
 (.m 63184 [v27,v36] (v27) (.o 44245 [v22,v38] (v22))
 (.l))))]
def abM:aC:=[.m 53443 [Ft,.fn (.f 94) [] [.aF [j 1000]]] (j (-1)) (.m 53180 [v7,.fn (.f 94) [] [.aF [j 1000]]] (j (-1)) (.o 52652 [v6,.fn (.f 94) [] [.aF [j 1000]]] (j (-1)))
 (.l))
 (.m 59943 [OP,.fn (.f 94) [] [.aF [j 100]]] (j (-1)) (.o 59680 [v8,.fn (.f 94) [] [.aF [j 100]]] (j (-1)))
 (.l))]
def abN:aC:=[.m 9006 [di] (bS) (.o 5357 [v12] (bS))
 (.l)]
def k5:List (Nat×aC):=[(105,abH),(107,abI),(114,abJ),(123,abK),(130,abL),(132,abM),(149,abN)]
def asB:iG prog aU T1 k5=true:=by decide+kernel
def abO:aC:=[.m 9008 [v10] (v22) (.o 5358 [v11] (v22))
 (.l)]
def abP:aC:=[.m 52923 [v30,j 2] (v37) (.o 52660 [v30,j 1] (v30))
 (.l)]
def k6:List (Nat×aC):=[(149,abO),(155,abP)]
def asC:iG prog aU T1 k6=true:=by decide+kernel
def t2:Tr aC:=(.n 86 adR (.n 49 adM (.n 28 adJ (.n 23 adI (.n 21 adH .l .l) .l) (.n 37 adL (.n 34 adK .l .l) .l)) (.n 74 adP (.n 71 adO (.n 63 adN .l .l) .l) (.n 79 adQ .l .l))) (.n 123 abK (.n 107 abI (.n 105 (abG++abH) (.n 97 adS .l .l) .l) (.n 114 abJ .l .l)) (.n 149 (abN++abO) (.n 132 abM (.n 130 abL .l .l) .l) (.n 155 abP .l .l))))
def T2:List (Tr aC):=t2::T1
def asD {O:bw} (hO:eH O) (hp:O.prog=prog) (hl:O.aU=aU):eL O T2:=by
 have h:=asz hO hp hl;have c4:=kB hO hp hl h asA;have c5:=kB hO hp hl h asB;have c6:=kB hO hp hl h asC;exact eL.cons (aN (c4 10 rfl) (aN (c4 5 rfl) (aN (c4 2 rfl) (aN (c4 1 rfl) (aN (c4 0 rfl) aL aL) aL) (aN (c4 4 rfl) (aN (c4 3 rfl) aL aL) aL)) (aN (c4 8 rfl) (aN (c4 7 rfl) (aN (c4 6 rfl) aL aL) aL) (aN (c4 9 rfl) aL aL))) (aN (c5 3 rfl) (aN (c5 1 rfl) (aN (.dH (c4 12 rfl) (c5 0 rfl)) (aN (c4 11 rfl) aL aL) aL) (aN (c5 2 rfl) aL aL)) (aN (.dH (c5 6 rfl) (c6 0 rfl)) (aN (c5 5 rfl) (aN (c5 4 rfl) aL aL) aL) (aN (c6 1 rfl) aL aL)))) h
def adT:aC:=[.o 1842 [j 1] (j 0)]
def adU:aC:=[.m 45155 [j 0,j 1,.aF [v105],.aF [cr],.aF [j 1]] (j 2) (.m 44893 [j 1,j 0,.aF [v105],.aF [cr],.aF [j 1]] (j 4) (.o 44892 [j 0,j 0,.aF [v105],.aF [cr],.aF [j 1]] (j 2))
 (.l))
 (.o 45156 [j 1,j 1,.aF [v105],.aF [cr],.aF [j 1]] (j 4))]
def adV:aC:=[.m 36730 [v11,v11] (v12) (.m 36467 [v11,v12] (v11) (.o 36466 [v12,v12] (v12))
 (.l))
 (.o 37002 [v44,v42] (Vc))]
def adW:aC:=[.m 1842 [j 1] (j 0) (.o 1841 [j 0] (j 0))
 (.l)]
def adX:aC:=[.m 45155 [j 0,j 1,.aF [cr],.aF [j 1],.aF [j 0]] (j 1) (.m 44893 [j 1,j 0,.aF [cr],.aF [j 1],.aF [j 0]] (j 1) (.o 44892 [j 0,j 0,.aF [cr],.aF [j 1],.aF [j 0]] (j 1))
 (.l))
 (.o 45156 [j 1,j 1,.aF [cr],.aF [j 1],.aF [j 0]] (j 1))]
def adY:aC:=[.m 42377 [v91] (j 0) (.o 42376 [v87] (j 0))
 (.o 42639 [mF] (j 0))]
def adZ:aC:=[.m 9008 [v10] (NB) (.o 9006 [di] (.aq [v2,j 0]))
 (.l)]
def ad0:aC:=[.m 45155 [j 0,j 1,.aF [cr],.aF [j 1],.aF [j 0]] (j 3) (.m 44893 [j 1,j 0,.aF [cr],.aF [j 1],.aF [j 0]] (j 0) (.o 44892 [j 0,j 0,.aF [cr],.aF [j 1],.aF [j 0]] (j 1))
 (.l))
 (.o 45156 [j 1,j 1,.aF [cr],.aF [j 1],.aF [j 0]] (j 2))]
def ad1:aC:=[.m 65476 [v63,v11] (v63) (.o 1007 [v63,ni] (v63))
 (.l)]
def ad2:aC:=[.o 29001 [v107,.fn (.f 86) [] []] (.cG false 1 1 [j 0])]
def ad3:aC:=[.m 53443 [Ft,.fn (.f 94) [] [.aF [j 1000]]] (.bool false) (.m 53180 [v7,.fn (.f 94) [] [.aF [j 1000]]] (.bool false) (.o 52652 [v6,.fn (.f 94) [] [.aF [j 1000]]] (.bool false))
 (.l))
 (.m 59943 [OP,.fn (.f 94) [] [.aF [j 100]]] (.bool false) (.o 59680 [v8,.fn (.f 94) [] [.aF [j 100]]] (.bool false))
 (.l))]
def abQ:aC:=[.m 38990 [v24,v27] (v10) (.m 38724 [dT,dT] (v11) (.m 38461 [dT,v25] (v10) (.m 38459 [v22,v25] (di) (.o 38458 [bS,v25] (v12))
 (.o 38460 [v25,v25] (v11)))
 (.m 38722 [v22,dT] (Vd) (.o 38462 [v27,v25] (v42))
 (.l)))
 (.m 38986 [v25,v27] (di) (.m 38985 [v22,v27] (v65) (.o 38984 [bS,v27] (v12))
 (.l))
 (.m 38988 [v27,v27] (v11) (.o 38987 [dT,v27] (Fx))
 (.l))))
 (.m 40567 [v28,v30] (di) (.m 40042 [v24,v31] (Fx) (.m 38998 [Fu,v27] (Fy) (.o 38993 [Fw,v27] (v68))
 (.o 40037 [v22,v31] (v69)))
 (.m 40563 [v22,v30] (v70) (.o 40046 [v30,v31] (OM))
 (.l)))
 (.m 44244 [bS,v38] (v12) (.m 42164 [v38,v35] (v10) (.o 41089 [v22,v33] (Ve))
 (.l))
 (.m 63184 [v27,v36] (se) (.o 44245 [v22,v38] (se))
 (.l))))]
def abR:aC:=[.m 47498 [v12,.aE false 4 [j 0,.ab,j 1,.ab,j 0,.ab,j 1,.ab,j 1,.ab,j 1,.ab,j 0,.ab,j 1,.ab],.fn (.f 74) [] []] (v11) (.o 20032 [v12,.aE false 4 [j 3,.ab,j 1,.ab,j 0,.ab,j 1,.ab,j 0,.ab,j 1,.ab,j 0,.ab,j 1,.ab],.fn (.f 74) [] []] (v40))
 (.l)]
def abS:aC:=[.o 2147 [v4] (v22)]
def k7:List (Nat×aC):=[(36,adT),(41,adU),(50,adV),(51,adW),(52,adX),(53,adY),(57,adZ),(58,ad0),(75,ad1),(85,ad2),(95,ad3),(101,abQ),(106,abR),(110,abS)]
def asE:iG prog aU T2 k7=true:=by decide+kernel
def abT:aC:=[.m 2150 [.str [52]] (v27) (.m 2148 [.str [50]] (v25) (.o 2146 [v0] (bS))
 (.o 2149 [.str [51]] (dT)))
 (.m 14754 [v20] (v30) (.o 2151 [v21] (v28))
 (.l))]
def abU:aC:=[.o 25238 [v63,v63] (v63)]
def abV:aC:=[.m 44894 [sf] (.bool false) (.o 14255 [qw] (.bool false))
 (.o 52488 [v59] (.bool false))]
def abW:aC:=[.m 36994 [v72,v73] (v11) (.o 11145 [OQ,OQ] (v42))
 (.l)]
def abX:aC:=[.m 44566 [J3,.fn (.f 107) [] []] (j (-1)) (.o 737 [OO,.fn (.f 107) [] []] (j (-1)))
 (.l)]
def abY:aC:=[.o 42642 [v93] (j 0)]
def k8:List (Nat×aC):=[(110,abT),(112,abU),(113,abV),(131,abW),(160,abX),(161,abY)]
def asF:iG prog aU T2 k8=true:=by decide+kernel
def t3:Tr aC:=(.n 85 ad2 (.n 52 adX (.n 50 adV (.n 41 adU (.n 36 adT .l .l) .l) (.n 51 adW .l .l)) (.n 58 ad0 (.n 57 adZ (.n 53 adY .l .l) .l) (.n 75 ad1 .l .l))) (.n 112 abU (.n 106 abR (.n 101 abQ (.n 95 ad3 .l .l) .l) (.n 110 (abS++abT) .l .l)) (.n 160 abX (.n 131 abW (.n 113 abV .l .l) .l) (.n 161 abY .l .l))))
def T3:List (Tr aC):=t3::T2
def asG {O:bw} (hO:eH O) (hp:O.prog=prog) (hl:O.aU=aU):eL O T3:=by
 have h:=asD hO hp hl;have c7:=kB hO hp hl h asE;have c8:=kB hO hp hl h asF;exact eL.cons (aN (c7 9 rfl) (aN (c7 4 rfl) (aN (c7 2 rfl) (aN (c7 1 rfl) (aN (c7 0 rfl) aL aL) aL) (aN (c7 3 rfl) aL aL)) (aN (c7 7 rfl) (aN (c7 6 rfl) (aN (c7 5 rfl) aL aL) aL) (aN (c7 8 rfl) aL aL))) (aN (c8 1 rfl) (aN (c7 12 rfl) (aN (c7 11 rfl) (aN (c7 10 rfl) aL aL) aL) (aN (.dH (c7 13 rfl) (c8 0 rfl)) aL aL)) (aN (c8 4 rfl) (aN (c8 3 rfl) (aN (c8 2 rfl) aL aL) aL) (aN (c8 5 rfl) aL aL)))) h
def ad4:aC:=[.m 57092 [cr,j 1000] (j 0) (.o 28943 [v105,j 100] (j 0))
 (.o 61531 [I6,j 1000] (j 0))]
def ad5:aC:=[.o 56899 [Vb,.fn (.f 36) [] []] (.cG false 1 5 [j 0,j 0,j 0,j 0,j 0])]
def ad6:aC:=[.o 26853 [j 2,.fn (.f 58) [] [.aF [cr],.aF [j 1],.aF [j 0]]] (NA),
 .o 26853 [j 2,.fn (.f 41) [] [.aF [v105],.aF [cr],.aF [j 1]]] (I6)]
def ad7:aC:=[.m 32083 [v75,v65] (v10) (.m 17515 [v10,v10] (v68) (.m 13339 [v11,di] (di) (.m 13338 [v12,di] (v12) (.o 5093 [v70,ni] (di))
 (.l))
 (.m 16987 [di,di] (v65) (.o 13342 [v76,di] (v42))
 (.l)))
 (.m 22905 [v11,se] (se) (.m 22904 [v12,se] (v12) (.o 22778 [ni,v70] (di))
 (.l))
 (.o 32081 [v76,v65] (v11))))
 (.m 47411 [v65,v12] (v12) (.m 40378 [di,v11] (di) (.m 40115 [di,v12] (v12) (.o 32091 [v77,v65] (Fy))
 (.l))
 (.m 40904 [di,v40] (v10) (.o 40641 [di,v42] (v11))
 (.l)))
 (.m 48200 [v65,v40] (Fx) (.m 47937 [v65,v42] (di) (.o 47674 [v65,v11] (v65))
 (.l))
 (.o 55471 [v40,Vd] (v11))))]
def ad8:aC:=[.m 2151 [v21] (ni) (.m 2149 [.str [51]] (v40) (.m 2147 [v4] (v11) (.o 2146 [v0] (v12))
 (.l))
 (.o 2150 [.str [52]] (v76)))
 (.m 45023 [v2] (di) (.m 17849 [v5] (v70) (.o 14754 [v20] (v44))
 (.l))
 (.o 45025 [v1] (v10)))]
def ad9:aC:=[.m 44894 [sf] (.aq [.agg [v2,v4],j 0]) (.o 14255 [qw] (.aq [.agg [v0,v2],j 0]))
 (.o 52488 [v59] (.aq [.agg [v3,v0],j 0]))]
def aea:aC:=[.o 25239 [OR,v63] (OR)]
def aeb:aC:=[.m 5365 [Vc] (v69) (.m 5360 [v40] (Vd) (.o 5359 [v42] (di))
 (.o 5361 [v76] (v65)))
 (.m 5369 [v46] (Ve) (.o 5367 [v44] (v70))
 (.l))]
def aec:aC:=[.m 32077 [v12,v65] (v65) (.m 13338 [v12,di] (di) (.m 13076 [v11,.agg [j (-1),.ab,j 2,.ab]] (di) (.o 1265 [v69,.agg [j (-1),.ab,j 12,.ab]] (se))
 (.l))
 (.m 24283 [v65,di] (Fx) (.o 16987 [di,di] (v11))
 (.l)))
 (.m 40117 [v10,v47] (di) (.m 40115 [di,v12] (di) (.o 39677 [Fy,.agg [j (-9),.ab,j 4,.ab]] (OM))
 (.l))
 (.o 43550 [Fx,Fx] (v10)))]
def aed:aC:=[.m 45023 [v2] (j 0) (.o 17849 [v5] (j 0))
 (.o 45025 [v1] (j 0))]
def aee:aC:=[.o 30369 [v72,.aF [v73]] (v11)]
def k9:List (Nat×aC):=[(32,ad4),(35,ad5),(40,ad6),(49,ad7),(62,ad8),(65,ad9),(72,aea),(73,aeb),(74,aec),(86,aed),(91,aee)]
def asH:iG prog aU T3 k9=true:=by decide+kernel
def aaO:aC:=[.m 21813 [Dj] (v79) (.o 21549 [v51] (v79))
 (.l)]
def aaP:aC:=[.o 1866 [SZ,.fn (.f 53) [] []] (.cG false 1 1 [j 0])]
def aaQ:aC:=[.m 44566 [J3,.fn (.f 107) [] []] (.bool false) (.o 737 [OO,.fn (.f 107) [] []] (.bool false))
 (.l)]
def aaR:aC:=[.o 2131 [v93,.aF [EY]] (j 0)]
def k10:List (Nat×aC):=[(104,aaO),(121,aaP),(122,aaQ),(126,aaR)]
def aqd:iG prog aU T3 k10=true:=by decide+kernel
def t4:Tr aC:=(.n 73 aeb (.n 49 ad7 (.n 35 ad5 (.n 32 ad4 .l .l) (.n 40 ad6 .l .l)) (.n 65 ad9 (.n 62 ad8 .l .l) (.n 72 aea .l .l))) (.n 104 aaO (.n 86 aed (.n 74 aec .l .l) (.n 91 aee .l .l)) (.n 122 aaQ (.n 121 aaP .l .l) (.n 126 aaR .l .l))))
def T4:List (Tr aC):=t4::T3
def asI {O:bw} (hO:eH O) (hp:O.prog=prog) (hl:O.aU=aU):eL O T4:=by
 have h:=asG hO hp hl;have c9:=kB hO hp hl h asH;have OV:=kB hO hp hl h aqd;exact eL.cons (aN (c9 7 rfl) (aN (c9 3 rfl) (aN (c9 1 rfl) (aN (c9 0 rfl) aL aL) (aN (c9 2 rfl) aL aL)) (aN (c9 5 rfl) (aN (c9 4 rfl) aL aL) (aN (c9 6 rfl) aL aL))) (aN (OV 0 rfl) (aN (c9 9 rfl) (aN (c9 8 rfl) aL aL) (aN (c9 10 rfl) aL aL)) (aN (OV 2 rfl) (aN (OV 1 rfl) aL aL) (aN (OV 3 rfl) aL aL)))) h
def aef:aC:=[.o 32481 [cr] (j 0)]
def aeg:aC:=[.o 31824 [j 1,j 2,Vb] (.aq [SY,j 0])]
def abZ:aC:=[.m 37836 [Fy,v68] (OM) (.m 13339 [v11,di] (di) (.o 1528 [v69,Ve] (se))
 (.l))
 (.m 40380 [v10,v11] (di) (.o 40115 [di,v12] (di))
 (.l))]
def ab0:aC:=[.m 26771 [OT] (j 0) (.m 19734 [OS] (j 0) (.o 19732 [.agg [v2,v0]] (j 0))
 (.l))
 (.o 58079 [.agg [v5,v0]] (j 0))]
def ab1:aC:=[.m 42376 [v87] (v63) (.m 19734 [OS] (v80) (.o 19732 [.agg [v2,v0]] (Dk))
 (.o 26771 [OT] (v82)))
 (.m 42639 [mF] (v83) (.o 42377 [v91] (OR))
 (.o 58079 [.agg [v5,v0]] (v84)))]
def ab2:aC:=[.o 44745 [Dj,cr] (v40)]
def ab3:aC:=[.m 25846 [v21,j 0] (j 0) (.m 25845 [.str [52],j 0] (j 0) (.o 25841 [v0,j 0] (j 0))
 (.l))
 (.m 38449 [v20,j 0] (j 0) (.o 26105 [v4,j 1] (j 0))
 (.l))]
def ab4:aC:=[.o 13594 [sj,ni] (.bool true)]
def ab5:aC:=[.m 37522 [v76,v76] (v11) (.m 36996 [v76,v42] (v42) (.m 36993 [v11,v42] (di) (.o 36992 [v12,v42] (v12))
 (.l))
 (.o 37258 [v40,v40] (v11)))
 (.m 37532 [v77,v76] (Fy) (.o 37524 [v75,v76] (v10))
 (.o 39101 [ni,v44] (di)))]
def ab6:aC:=[.m 33840 [v84,ni] (Dk) (.m 3604 [Dk,v11] (Dk) (.o 3341 [Dk,v12] (v63))
 (.o 10745 [sf,v11] (sf)))
 (.m 49226 [v83,di] (qw) (.o 45627 [qw,v11] (qw))
 (.o 51652 [OR,se] (v59)))]
def ab7:aC:=[.o 42377 [SZ] (j 0)]
def ab8:aC:=[.m 41248 [OO] (.aq [v93,j 0]) (.o 19556 [J3] (.aq [Fz,j 0]))
 (.l)]
def ab9:aC:=[.m 42642 [v93] (.cG true 4 2 [j 1,.ab,j 1,.ab,j 1,.ab,j 1,.ab]) (.o 3991 [v107] (.cG true 4 1 [j 3,.ab,j 1,.ab]))
 (.l)]
def aca:aC:=[.o 2579 [.aE false 1 [OQ],.aF [v4]] (.cG false 1 1 [v85])]
def acb:aC:=[.o 63847 [.aE true 2 [v72,v72],.fn (.f 91) [] [.aF [v73]]] (.cG false 4 2 [j 1,.ab,j 1,.ab,j 1,.ab,j 1,.ab])]
def aaS:aC:=[.m 61636 [v12,J3,.fn (.f 74) [] []] (di) (.o 47668 [v12,.aE false 4 [j 0,.ab,j 1,.ab,j 1,.ab,j 4,.ab,j 1,.ab,j 2,.ab,j 3,.ab,j 4,.ab],.fn (.f 74) [] []] (v10))
 (.l)]
def aaT:aC:=[.m 12900 [sf,Dk] (Vf) (.m 9251 [v83,Dk] (sf) (.o 5389 [qw,v63] (qw))
 (.l))
 (.o 36028 [sf,v63] (sf))]
def aaU:aC:=[.o 3973 [EY,.fn (.f 126) [] [.aF [EY]]] (j 0)]
def k11:List (Nat×aC):=[(4,aef),(5,aeg),(50,abZ),(53,ab0),(54,ab1),(56,ab2),(61,ab3),(63,ab4),(70,ab5),(75,ab6),(78,ab7),(83,ab8),(88,ab9),(89,aca),(92,acb),(106,aaS),(112,aaT),(127,aaU)]
def aqe:iG prog aU T4 k11=true:=by decide+kernel
def t5:Tr aC:=(.n 75 ab6 (.n 54 ab1 (.n 50 abZ (.n 5 aeg (.n 4 aef .l .l) .l) (.n 53 ab0 .l .l)) (.n 63 ab4 (.n 61 ab3 (.n 56 ab2 .l .l) .l) (.n 70 ab5 .l .l))) (.n 92 acb (.n 88 ab9 (.n 83 ab8 (.n 78 ab7 .l .l) .l) (.n 89 aca .l .l)) (.n 112 aaT (.n 106 aaS .l .l) (.n 127 aaU .l .l))))
def T5:List (Tr aC):=t5::T4
def asJ {O:bw} (hO:eH O) (hp:O.prog=prog) (hl:O.aU=aU):eL O T5:=by
 have h:=asI hO hp hl;have j0:=kB hO hp hl h aqe;exact eL.cons (aN (j0 9 rfl) (aN (j0 4 rfl) (aN (j0 2 rfl) (aN (j0 1 rfl) (aN (j0 0 rfl) aL aL) aL) (aN (j0 3 rfl) aL aL)) (aN (j0 7 rfl) (aN (j0 6 rfl) (aN (j0 5 rfl) aL aL) aL) (aN (j0 8 rfl) aL aL))) (aN (j0 14 rfl) (aN (j0 12 rfl) (aN (j0 11 rfl) (aN (j0 10 rfl) aL aL) aL) (aN (j0 13 rfl) aL aL)) (aN (j0 16 rfl) (aN (j0 15 rfl) aL aL) (aN (j0 17 rfl) aL aL)))) h
def aeh:aC:=[.o 63249 [cr,v105] (.aq [I6,j 0])]
def acd:aC:=[.o 63729 [cr,j 1,j 0] (.aq [NA,j 0])]
def ace:aC:=[.o 26853 [j 2,.fn (.f 44) [] [.aF [cr]]] (v10),
 .o 26853 [j 2,.fn (.f 47) [] [.aF [cr]]] (v10),
 .o 26853 [j 2,.fn (.f 48) [] [.aF [cr]]] (Fy),
 .o 26853 [j 2,.fn (.f 52) [] [.aF [cr],.aF [j 1],.aF [j 0]]] (v11)]
def acf:aC:=[.m 48449 [FA] (j 0) (.o 46691 [sj] (j 0))
 (.o 64152 [Ad] (j 0))]
def acg:aC:=[.m 13425 [FA,ni,v87] (v63) (.o 5737 [Ad,ni,mF] (sf))
 (.o 53797 [sj,ni,mF] (qw))]
def ach:aC:=[.o 44484 [EY] (j 0)]
def aci:aC:=[.o 3973 [EY,.fn (.f 88) [] []] (.cG false 1 1 [OQ])]
def acj:aC:=[.o 39364 [.aE false 1 [v85],.aE true 1 [j 3,.ab,j 1,.ab]] (.cG true 4 1 [j 1,.ab,j 1,.ab])]
def aaV:aC:=[.m 33227 [di,j 2] (.aq [j 0,di]) (.m 29579 [v11,j 2] (.aq [j 1,v12]) (.o 29578 [v12,j 2] (.aq [j 0,v12]))
 (.l))
 (.o 33229 [v10,j 2] (.aq [j 1,di]))]
def aaW:aC:=[.m 23891 [v48] (.agg [j 1,.ab,j 4,.ab,j 1,.ab,j 4,.ab,j 1,.ab,j 4,.ab,j 1,.ab,j 4,.ab]) (.o 13102 [Di] (.agg [j 1,.ab,j 2,.ab,j 0,.ab,j 1,.ab,j 1,.ab,j 2,.ab,j 0,.ab,j 1,.ab]))
 (.o 32339 [v53] (.agg [j 1,.ab,j 2,.ab,j 1,.ab,j 2,.ab,j 0,.ab,j 1,.ab,j 0,.ab,j 1,.ab]))]
def aaX:aC:=[.o 45199 [v109] (j 0)]
def k12:List (Nat×aC):=[(9,aeh),(20,acd),(45,ace),(60,acf),(64,acg),(84,ach),(87,aci),(90,acj),(103,aaV),(104,aaW),(115,aaX)]
def aqf:iG prog aU T5 k12=true:=by decide+kernel
def t6:Tr aC:=(.n 84 ach (.n 45 ace (.n 20 acd (.n 9 aeh .l .l) .l) (.n 64 acg (.n 60 acf .l .l) .l)) (.n 103 aaV (.n 90 acj (.n 87 aci .l .l) .l) (.n 115 aaX (.n 104 aaW .l .l) .l)))
def T6:List (Tr aC):=t6::T5
def asK {O:bw} (hO:eH O) (hp:O.prog=prog) (hl:O.aU=aU):eL O T6:=by
 have h:=asJ hO hp hl;have qB:=kB hO hp hl h aqf;exact eL.cons (aN (qB 5 rfl) (aN (qB 2 rfl) (aN (qB 1 rfl) (aN (qB 0 rfl) aL aL) aL) (aN (qB 4 rfl) (aN (qB 3 rfl) aL aL) aL)) (aN (qB 8 rfl) (aN (qB 7 rfl) (aN (qB 6 rfl) aL aL) aL) (aN (qB 10 rfl) (aN (qB 9 rfl) aL aL) aL))) h
def ack:aC:=[.o 32481 [cr] (NB)]
def acm:aC:=[.o 32481 [cr] (.aq [.str [53,47,52],j 0])]
def acn:aC:=[.o 63729 [cr,j 1,j 0] (.aq [v4,j 0])]
def aco:aC:=[.m 61077 [sj,v21,mF] (.aq [.agg [v0,v2],j 0]) (.o 13017 [Ad,v21,mF] (.aq [.agg [v2,v4],j 0]))
 (.l)]
def acp:aC:=[.o 12660 [sj,.str [52],v87,v91] (.aq [.agg [v3,v0],j 0])]
def acq:aC:=[.o 53661 [EY,v107,v4] (.aq [v93,j 0])]
def acr:aC:=[.m 58325 [v63,j 2] (v51) (.m 42125 [v82,j 2] (v48) (.o 38476 [qw,j 2] (Di))
 (.l))
 (.m 65467 [Vf,j 2] (Dj) (.o 61976 [v80,j 2] (v53))
 (.l))]
def acs:aC:=[.m 46823 [v48,cr] (v10) (.o 36034 [Di,cr] (v11))
 (.o 55271 [v53,cr] (di))]
def acu:aC:=[.m 62507 [v109,sj,mF,j 0] (j 0) (.o 44889 [v109,Ad,mF,j 1] (j 0))
 (.l)]
def acv:aC:=[.o 7939 [.aE true 1 [v0,v0,v0],.fn (.f 60) [] []] (.cG false 1 1 [j 0])]
def aaY:aC:=[.m 44889 [v109,Ad,mF,j 1] (Vf) (.o 24084 [v109,FA,v87,j 0] (v63))
 (.o 62507 [v109,sj,mF,j 0] (qw))]
def aaZ:aC:=[.o 4689 [I7,.fn (.f 115) [] []] (.cG false 1 1 [j 0])]
def k13:List (Nat×aC):=[(16,ack),(17,acm),(18,acn),(22,aco),(25,acp),(27,acq),(55,acr),(56,acs),(66,acu),(77,acv),(116,aaY),(120,aaZ)]
def aqg:iG prog aU T6 k13=true:=by decide+kernel
def t7:Tr aC:=(.n 55 acr (.n 22 aco (.n 17 acm (.n 16 ack .l .l) (.n 18 acn .l .l)) (.n 27 acq (.n 25 acp .l .l) .l)) (.n 77 acv (.n 66 acu (.n 56 acs .l .l) .l) (.n 120 aaZ (.n 116 aaY .l .l) .l)))
def T7:List (Tr aC):=t7::T6
def asL {O:bw} (hO:eH O) (hp:O.prog=prog) (hl:O.aU=aU):eL O T7:=by
 have h:=asK hO hp hl;have py:=kB hO hp hl h aqg;exact eL.cons (aN (py 6 rfl) (aN (py 3 rfl) (aN (py 1 rfl) (aN (py 0 rfl) aL aL) (aN (py 2 rfl) aL aL)) (aN (py 5 rfl) (aN (py 4 rfl) aL aL) aL)) (aN (py 9 rfl) (aN (py 8 rfl) (aN (py 7 rfl) aL aL) aL) (aN (py 11 rfl) (aN (py 10 rfl) aL aL) aL))) h
def acw:aC:=[.m 60666 [cr,OT] (NB) (.o 44523 [cr,OS] (.aq [v2,j 0]))
 (.l)]
def acx:aC:=[.m 62507 [v109,sj,mF,j 0] (di) (.o 44889 [v109,Ad,mF,j 1] (v10))
 (.l)]
def acy:aC:=[.o 45200 [I7] (j 0)]
def acz:aC:=[.o 45043 [I7,FA,v87,j 0,j 4] (.cG false 4 4 [j 1,.ab,j 2,.ab,j 0,.ab,j 1,.ab,j 0,.ab,j 1,.ab,j 0,.ab,j 1,.ab])]
def k14:List (Nat×aC):=[(19,acw),(67,acx),(76,acy),(82,acz)]
def aqh:iG prog aU T7 k14=true:=by decide+kernel
def t8:Tr aC:=(.n 76 acy (.n 67 acx (.n 19 acw .l .l) .l) (.n 82 acz .l .l))
def T8:List (Tr aC):=t8::T7
def asM {O:bw} (hO:eH O) (hp:O.prog=prog) (hl:O.aU=aU):eL O T8:=by
 have h:=asL hO hp hl;have Aa:=kB hO hp hl h aqh;exact eL.cons (aN (Aa 2 rfl) (aN (Aa 1 rfl) (aN (Aa 0 rfl) aL aL) aL) (aN (Aa 3 rfl) aL aL)) h
def acA:aC:=[.m 62507 [v109,sj,mF,j 0] (.aq [v2,j 0]) (.o 44889 [v109,Ad,mF,j 1] (NB))
 (.l)]
def acB:aC:=[.o 27996 [I7,.aE true 1 [v0,v0,v0],SZ,j 0] (.aq [.cG false 1 1 [Fz],j 0])]
def k15:List (Nat×aC):=[(24,acA),(26,acB)]
def aqi:iG prog aU T8 k15=true:=by decide+kernel
def t9:Tr aC:=(.n 26 acB (.n 24 acA .l .l) .l)
def T9:List (Tr aC):=t9::T8
def asN {O:bw} (hO:eH O) (hp:O.prog=prog) (hl:O.aU=aU):eL O T9:=by
 have h:=asM hO hp hl;have c15:=kB hO hp hl h aqi;exact eL.cons (aN (c15 1 rfl) (aN (c15 0 rfl) aL aL) aL) h
def aei:aC:=[.o 7 [] (.bool true)]
def k16:List (Nat×aC):=[(1,aei)]
def aqj:iG prog aU T9 k16=true:=by decide+kernel
def t10:Tr aC:=(.n 1 aei .l .l)
def T10:List (Tr aC):=t10::T9
def aqk {O:bw} (hO:eH O) (hp:O.prog=prog) (hl:O.aU=aU):eL O T10:=by
 have h:=asN hO hp hl;have c16:=kB hO hp hl h aqj;exact eL.cons (aN (c16 0 rfl) aL aL) h
def holds {O:bw} (hO:eH O) (hp:O.prog=prog) (hl:O.aU=aU):eN O 1 [] (.bool true):=Tr.Cd (aqk hO hp hl t10 (.head _)) (i:=1) rfl _ _ ⟨_,.head _,.inl rfl⟩
end VK1
end VE
