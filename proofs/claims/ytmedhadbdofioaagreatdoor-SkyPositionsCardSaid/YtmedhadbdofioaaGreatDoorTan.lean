import Derived.Test.YtmedhadbdofioaaGreatDoorTam
import Derived.Test.YtmedhadbdofioaaGreatDoorTal
set_option linter.all false
set_option maxRecDepth 100000
namespace VE
namespace VK1
def T0:List (Tr aC):=[]
def atA {O:bA} (_hO:eP O) (_hp:O.prog=prog) (_hl:O.aU=aU):eT O T0:=eT.nil
abbrev j (n:Int):AV:= .int .i64 n
abbrev u (n:Nat):AV:= .int .u64 n
def w (l:List Nat):AV:= .aE true l.length (l.map u)
def v0:AV:= .str [48]
def v1:AV:= .str [51,47,50]
def v2:AV:= .str [49,47,50]
def v3:AV:= .str [49,47,50,52]
def v4:AV:= .str [49]
def v5:AV:= .str [49,47,49,48]
def v6:AV:= .aE true 2 [j 0,j 1]
def v7:AV:= .aE true 2 [j 2,j 3]
def v8:AV:= .aE true 3 [j 0,j 0,j 0]
def v9:AV:= .aE true 4 [j 0,j 0,j 0,j 0]
def v10:AV:= .agg [j 3,.ab,j 2,.ab]
def v11:AV:= .agg [j 1,.ab,j 1,.ab]
def v12:AV:= .agg [j 0,.ab,j 1,.ab]
def dn:AV:= .agg [j 1,.ab,j 2,.ab]
def su:AV:= .agg [j 1,.ab,j 24,.ab]
def PR:AV:= .agg [j 5,.ab,j 4,.ab]
def Wh:AV:= .aE true 2 [j 3,j 2]
def PS:AV:= .aE true 2 [j 1,j 2]
def Wi:AV:= .aE true 2 [j 1,j 0]
def FR:AV:= .aE true 2 [j 2,j 4]
def v20:AV:= .str [49,48]
def v21:AV:= .str [53]
def v22:AV:= .agg [j 1,.ab]
def dV:AV:= .agg [j 3,.ab]
def v24:AV:= .agg [j 6,.ab]
def v25:AV:= .agg [j 2,.ab]
def bV:AV:= .agg [j 0,.ab]
def v27:AV:= .agg [j 4,.ab]
def v28:AV:= .agg [j 5,.ab]
def FT:AV:= .agg [j 14,.ab]
def v30:AV:= .agg [j 10,.ab]
def v31:AV:= .agg [j 8,.ab]
def FU:AV:= .agg [j (-1),.ab]
def v33:AV:= .agg [j 12,.ab]
def FV:AV:= .agg [j 9,.ab]
def v35:AV:= .agg [j 16,.ab]
def v36:AV:= .agg [j 96,.ab]
def v37:AV:= .agg [j 100,.ab]
def v38:AV:= .agg [j 24,.ab]
def Wj:AV:= .agg [j (-2),.ab]
def v40:AV:= .agg [j 3,.ab,j 1,.ab]
def Wk:AV:= .aE true 5 [j 1,j 1,j 1,j 1,j 1]
def v42:AV:= .agg [j 2,.ab,j 1,.ab]
def nl:AV:= .agg [j 5,.ab,j 1,.ab]
def v44:AV:= .agg [j 10,.ab,j 1,.ab]
def Wl:AV:= .agg [j 8,.ab,j 1,.ab]
def v46:AV:= .agg [j 12,.ab,j 1,.ab]
def v47:AV:= .agg [j (-1),.ab,j 1,.ab]
def v48:AV:= .agg [j 0,j 0,j 1,.ab,j 2,.ab,j 1,.ab,j 2,.ab]
def v49:AV:= .ap [j 1,j 0]
def KP:AV:= .ap [j 0,j 0]
def v51:AV:= .agg [j 0,j 0,j 0,.ab,j 1,.ab,j 0,.ab,j 1,.ab]
def DB:AV:= .agg [j 0,j 0,j 0,.ab,j 1,.ab,j 1,.ab,j 2,.ab]
def v53:AV:= .agg [j 1,j 0,j 1,.ab,j 2,.ab,j 0,.ab,j 1,.ab]
def KQ:AV:= .ap [j 1,j 1]
def KR:AV:= .ap [j 0,j 1]
def DC:AV:= .agg [j 1,j 1,j 0,.ab,j 1,.ab,j 0,.ab,j 1,.ab]
def sA:AV:= .agg [j 1,.ab,j 2,.ab,j 1,.ab,j 1,.ab]
def qQ:AV:= .agg [j 0,.ab,j 1,.ab,j 1,.ab,j 2,.ab]
def v59:AV:= .agg [j 1,.ab,j 24,.ab,j 0,.ab,j 1,.ab]
def PT:AV:= .aE false 2 [j 1,.ab,j 1,.ab,j 1,.ab,j 1,.ab]
def KS:AV:= .aE false 4 [j 1,.ab,j 2,.ab,j 0,.ab,j 1,.ab,j 0,.ab,j 1,.ab,j 0,.ab,j 1,.ab]
def PU:AV:= .aE true 3 [j 0,j 1,j 0]
def v63:AV:= .agg [j 0,.ab,j 1,.ab,j 0,.ab,j 1,.ab]
def Wm:AV:= .agg [j 1,.ab,j 3,.ab]
def v65:AV:= .agg [j 1,.ab,j 4,.ab]
def FW:AV:= .agg [j 3,.ab,j 4,.ab]
def FX:AV:= .agg [j 7,.ab,j 2,.ab]
def v68:AV:= .agg [j 9,.ab,j 4,.ab]
def v69:AV:= .agg [j 1,.ab,j 8,.ab]
def v70:AV:= .agg [j 1,.ab,j 10,.ab]
def Wn:AV:= .agg [j 1,.ab,j 12,.ab]
def v72:AV:= .aE false 1 [j 1,.ab,j 1,.ab]
def v73:AV:= .aE true 1 [j 1,.ab,j 1,.ab]
def PV:AV:= .aE true 2 [j 1,.ab,j 1,.ab,j 1,.ab,j 1,.ab]
def v75:AV:= .agg [j 6,.ab,j 1,.ab]
def v76:AV:= .agg [j 4,.ab,j 1,.ab]
def v77:AV:= .agg [j 14,.ab,j 1,.ab]
def PW:AV:= .agg [j 1,.ab,j 1,.ab,j 0,.ab,j 1,.ab]
def v79:AV:= .agg [j 1,.ab,j 1,.ab,j 0,.ab,j 1,.ab,j 0,.ab,j 1,.ab,j 0,.ab,j 1,.ab]
def v80:AV:= .agg [j 3,.ab,j 2,.ab,j 0,.ab,j 1,.ab]
def DD:AV:= .agg [j 1,.ab,j 2,.ab,j 0,.ab,j 1,.ab]
def v82:AV:= .agg [j 1,.ab,j 2,.ab,j 1,.ab,j 2,.ab]
def v83:AV:= .agg [j 0,.ab,j 1,.ab,j 1,.ab,j 1,.ab]
def v84:AV:= .agg [j 1,.ab,j 10,.ab,j 0,.ab,j 1,.ab]
def v85:AV:= .aE false 1 [j 3,.ab,j 1,.ab]
def Wo:AV:= .agg [j 1,.ab,j 1,.ab,j 1,.ab,j 1,.ab]
def v87:AV:= .agg [v0,v0]
def PX:AV:= .agg [v1,v0]
def PY:AV:= .agg [v2,v2]
def mN:AV:= .agg [v0,v4]
def v91:AV:= .agg [v4,v0]
def cz:AV:= .aE true 2 [v6,v7]
def v93:AV:= .aE true 2 [v4,v4]
def FY:AV:= .aE true 4 [v2,v0,v0,v0]
def FZ:AV:= .agg [v0,v0,v0]
def sB:AV:= .agg [v0,v0,v20]
def An:AV:= .agg [v5,v0,v0]
def PZ:AV:= .ap [bV,bV]
def F0:AV:= .ap [v22,bV]
def OB:AV:= .ap [v25,bV]
def Da:AV:= .ap [bV,v22]
def JO:AV:= .aE true 2 [FR,FR]
def OC:AV:= .aE true 2 [Wi,Wh]
def Ul:AV:= .aE true 2 [PS,PS]
def v105:AV:= .aE true 3 [PU,PU,v8]
def OD:AV:= .ap [v1,j 0]
def v107:AV:= .aE true 1 [.str [51]]
def Um:AV:= .aE true 1 [v0,v0]
def v109:AV:= .agg [cz,v21,v4,v2,v0,v0,v2,v0]
def JP:AV:= .aE true 1 [cz,v21,v4,v2,v0,v0,v2,v0]
def Fu:AV:= .aE true 1 [v93]
def ad1:aC:=[.m 40535 [v0,v0] (v87) (.m 17893 [v1,v0] (PX) (.m 17891 [v2,v0] (.agg [v2,v0]) (.o 9861 [v3,v0] (.agg [v3,v0]))
 (.l))
 (.m 24930 [v2,v2] (PY) (.o 18154 [v2,v4] (.agg [v2,v4]))
 (.l)))
 (.m 47574 [v0,v2] (.agg [v0,v2]) (.m 40798 [v0,v4] (mN) (.o 40536 [v4,v0] (v91))
 (.l))
 (.o 56238 [v5,v0] (.agg [v5,v0])))]
def ad2:aC:=[.o 7 [] (cz)]
def ad3:aC:=[.m 51556 [v93,v93] (.bool true) (.o 30452 [FY,FY] (.bool true))
 (.l)]
def ad4:aC:=[.m 28694 [.bool false,j 12] (j 0) (.m 26327 [.bool false,j 3] (j 0) (.o 26064 [.bool false,j 2] (j 0))
 (.o 26853 [.bool false,j 5] (j 0)))
 (.m 33691 [.bool false,j 31] (j 0) (.o 28957 [.bool false,j 13] (j 0))
 (.l))]
def ad5:aC:=[.m 34670 [v8] (j 0) (.m 9480 [.aE true 6 [j 0,j 0,j 0,j 0,j 0,j 0]] (j 0) (.o 3683 [.aE false 1 [j 0]] (j 0))
 (.o 27379 [.aE true 2 [j 0,j 0]] (j 0)))
 (.m 51832 [v9] (j 0) (.o 44227 [.aE true 5 [j 0,j 0,j 0,j 0,j 0]] (j 0))
 (.l)),
 .o 44227 [.aE false 5 [j 0,j 0,j 0,j 0,j 0]] (j 0)]
def ad6:aC:=[.m 25801 [j 2,j 1] (j 3) (.m 25800 [j 1,j 1] (j 2) (.o 25799 [j 0,j 1] (j 1))
 (.l))
 (.m 25803 [j 4,j 1] (j 5) (.o 25802 [j 3,j 1] (j 4))
 (.l))]
def ad7:aC:=[.m 51329 [j 0,j 1,.aI [cz]] (j 2) (.m 51067 [j 1,j 0,.aI [cz]] (j 1) (.o 51066 [j 0,j 0,.aI [cz]] (j 0))
 (.l))
 (.o 51330 [j 1,j 1,.aI [cz]] (j 3))]
def ad8:aC:=[.m 9008 [v10] (v1) (.m 5358 [v11] (v4) (.o 5357 [v12] (v0))
 (.o 9006 [dn] (v2)))
 (.m 23741 [su] (v3) (.o 16306 [PR] (.str [53,47,52]))
 (.l))]
def ad9:aC:=[.m 51329 [j 0,j 1,.aI [cz]] (j 2) (.m 51067 [j 1,j 0,.aI [cz]] (j 1) (.o 51066 [j 0,j 0,.aI [cz]] (j 0))
 (.l))
 (.o 51330 [j 1,j 1,.aI [cz]] (j 3))]
def aea:aC:=[.m 51329 [j 0,j 1,.aI [cz]] (j 4) (.m 51067 [j 1,j 0,.aI [cz]] (j 1) (.o 51066 [j 0,j 0,.aI [cz]] (j 0))
 (.l))
 (.o 51330 [j 1,j 1,.aI [cz]] (j 9))]
def aeb:aC:=[.m 27519 [Wh,Wh] (.bool true) (.m 26991 [PS,PS] (.bool true) (.o 19169 [Wi,Wi] (.bool true))
 (.l))
 (.o 35077 [FR,FR] (.bool true))]
def aec:aC:=[.m 48449 [FZ] (.bool true) (.o 46691 [sB] (.bool false))
 (.o 64152 [An] (.bool true))]
def aed:aC:=[.o 45199 [v109] (j 4)]
def aee:aC:=[.o 26588 [j 0,j 4] (j 4)]
def aef:aC:=[.m 26852 [j 1,.aI [j 1000]] (.bool false) (.o 26851 [j 0,.aI [j 1000]] (.bool false))
 (.l)]
def k0:List (Nat×aC):=[(14,ad1),(15,ad2),(29,ad3),(31,ad4),(33,ad5),(38,ad6),(44,ad7),(46,ad8),(47,ad9),(48,aea),(59,aeb),(68,aec),(80,aed),(81,aee),(94,aef)]
def atB:iZ prog aU T0 k0=true:=by decide+kernel
def aeg:aC:=[.m 26853 [j 2,.aI [j 1000]] (.bool false) (.m 26852 [j 1,.aI [j 100]] (.bool false) (.o 26851 [j 0,.aI [j 100]] (.bool false))
 (.l))
 (.m 26855 [j 4,.aI [j 1000]] (.bool false) (.o 26854 [j 3,.aI [j 1000]] (.bool false))
 (.l))]
def aeh:aC:=[.m 1844 [j 3] (.fn (.f 133) [] [.aI [j 3]]) (.o 1843 [j 2] (.fn (.f 133) [] [.aI [j 2]]))
 (.l)]
def ab9:aC:=[.m 38722 [v22,dV] (dV) (.m 38201 [v24,v22] (v24) (.m 38196 [v22,v22] (v22) (.m 37934 [v25,bV] (bV) (.m 37933 [v22,bV] (bV) (.o 37932 [bV,bV] (bV))
 (.l))
 (.o 38195 [bV,v22] (bV)))
 (.m 38199 [v27,v22] (v27) (.m 38198 [dV,v22] (dV) (.o 38197 [v25,v22] (v25))
 (.l))
 (.o 38200 [v28,v22] (v28))))
 (.m 38460 [v25,v25] (v27) (.m 38458 [bV,v25] (bV) (.m 38209 [FT,v22] (FT) (.o 38205 [v30,v22] (v30))
 (.l))
 (.o 38459 [v22,v25] (v25)))
 (.m 38474 [.agg [j (-9),.ab],v25] (.agg [j (-18),.ab]) (.o 38462 [v27,v25] (v31))
 (.o 38721 [bV,dV] (bV)))))
 (.m 40036 [FU,v31] (.agg [j (-8),.ab]) (.m 38987 [dV,v27] (v33) (.m 38985 [v22,v27] (v27) (.m 38984 [bV,v27] (bV) (.o 38724 [dV,dV] (FV))
 (.l))
 (.o 38986 [v25,v27] (v31)))
 (.m 39247 [bV,v28] (bV) (.m 38991 [.agg [j 7,.ab],v27] (.agg [j 28,.ab]) (.o 38988 [v27,v27] (v35))
 (.l))
 (.o 39248 [v22,v28] (v28))))
 (.m 41096 [v31,v33] (v36) (.m 40572 [v30,v30] (v37) (.m 40563 [v22,v30] (v30) (.o 40562 [bV,v30] (bV))
 (.l))
 (.o 41089 [v22,v33] (v33)))
 (.m 64232 [bV,v37] (bV) (.o 44245 [v22,v38] (v38))
 (.o 64233 [v22,v37] (v37))))),
 .m 38458 [FU,v25] (Wj) (.o 38195 [FU,v22] (FU))
 (.l)]
def aca:aC:=[.m 38196 [v22,v22] (v11) (.o 38195 [bV,v22] (v12))
 (.o 38198 [dV,v22] (v40))]
def acb:aC:=[.m 40564 [v25,v30] (j (-1)) (.o 38196 [v22,v22] (j 0))
 (.o 40567 [v28,v30] (j (-1)))]
def acd:aC:=[.m 38458 [bV,v25] (v25) (.m 37934 [v25,FU] (v22) (.m 37933 [v22,bV] (v22) (.o 37932 [bV,bV] (bV))
 (.l))
 (.o 38195 [bV,v22] (v22)))
 (.m 41100 [v33,v33] (v38) (.o 38986 [v25,v27] (v24))
 (.o 46902 [.agg [j 28,.ab],.agg [j (-18),.ab]] (v30)))]
def k1:List (Nat×aC):=[(94,aeg),(96,aeh),(100,ab9),(101,aca),(118,acb),(119,acd)]
def atD:iZ prog aU T0 k1=true:=by decide+kernel
def ace:aC:=[.m 38468 [v30,Wj] (v31) (.m 38197 [v25,v22] (dV) (.m 37935 [dV,bV] (dV) (.o 37933 [v22,FU] (bV))
 (.o 38196 [v22,v22] (v25)))
 (.m 38461 [dV,Wj] (v22) (.o 38460 [v25,v25] (v27))
 (.l)))
 (.m 39247 [bV,v28] (v28) (.m 38984 [bV,v27] (v27) (.o 38721 [bV,dV] (dV))
 (.l))
 (.m 41626 [v33,.agg [j (-8),.ab]] (v27) (.o 40562 [bV,v30] (v30))
 (.l))),
 .o 38468 [v30,v25] (v33)]
def acf:aC:=[.m 26590 [.bool false,j 4] (j 0) (.m 26064 [.bool false,j 2] (j 0) (.o 25801 [.bool false,j 1] (j 0))
 (.l))
 (.m 28694 [.bool false,j 12] (j 0) (.o 26853 [.bool false,j 5] (j 0))
 (.l))]
def acg:aC:=[.m 51832 [v9] (j 0) (.o 27379 [.aE true 2 [j 0,j 0]] (j 0))
 (.l)]
def ach:aC:=[.m 2149 [.str [51]] (.bool true) (.m 2147 [v4] (.bool true) (.o 2146 [v0] (.bool true))
 (.o 2148 [.str [50]] (.bool true)))
 (.m 2151 [v21] (.bool true) (.o 2150 [.str [52]] (.bool true))
 (.o 14754 [v20] (.bool true)))]
def aci:aC:=[.m 26063 [j 1,j 2] (j 1) (.o 26062 [j 0,j 2] (j 0))
 (.o 26064 [j 2,j 2] (j 0)),
 .o 26062 [j (-1),j 2] (j 1)]
def acj:aC:=[.m 28694 [v25] (.bool false) (.m 28693 [v22] (.bool false) (.o 28692 [bV] (.bool false))
 (.l))
 (.m 28716 [v38] (.bool false) (.o 28695 [dV] (.bool false))
 (.l))]
def ack:aC:=[.m 38468 [v30,v25] (.ap [v28,bV]) (.m 38458 [bV,v25] (PZ) (.m 38198 [dV,v22] (.ap [dV,bV]) (.m 38196 [v22,v22] (F0) (.o 38195 [bV,v22] (PZ))
 (.o 38197 [v25,v22] (OB)))
 (.m 38204 [FV,v22] (.ap [FV,bV]) (.o 38199 [v27,v22] (.ap [v27,bV]))
 (.l)))
 (.m 38462 [v27,v25] (OB) (.m 38460 [v25,v25] (F0) (.o 38459 [v22,v25] (Da))
 (.l))
 (.m 38466 [v31,v25] (.ap [v27,bV]) (.o 38464 [v24,v25] (.ap [dV,bV]))
 (.l))))
 (.m 38987 [dV,v27] (.ap [bV,dV]) (.m 38984 [bV,v27] (PZ) (.m 38725 [v27,dV] (.ap [v22,v22]) (.o 38472 [FT,v25] (.ap [.agg [j 7,.ab],bV]))
 (.l))
 (.m 38986 [v25,v27] (.ap [bV,v25]) (.o 38985 [v22,v27] (Da))
 (.l)))
 (.m 38993 [FV,v27] (.ap [v25,v22]) (.m 38990 [v24,v27] (.ap [v22,v25]) (.o 38988 [v27,v27] (F0))
 (.l))
 (.m 40046 [v30,v31] (.ap [v22,v25]) (.o 38998 [FT,v27] (.ap [dV,v25]))
 (.l))))]
def k2:List (Nat×aC):=[(119,ace),(124,acf),(125,acg),(129,ach),(134,aci),(151,acj),(164,ack)]
def atE:iZ prog aU T0 k2=true:=by decide+kernel
def acm:aC:=[.m 40037 [v22,v31] (Da) (.m 38722 [v22,dV] (Da) (.m 38207 [v33,v22] (.ap [v33,bV]) (.m 38205 [v30,v22] (.ap [v30,bV]) (.o 38203 [v31,v22] (.ap [v31,bV]))
 (.l))
 (.m 38461 [dV,v25] (.ap [v22,v22]) (.o 38219 [v38,v22] (.ap [v38,bV]))
 (.l)))
 (.m 39252 [v28,v28] (F0) (.m 39080 [v36,v27] (.ap [v38,bV]) (.o 38724 [dV,dV] (F0))
 (.l))
 (.m 39518 [v31,v24] (.ap [v22,v25]) (.o 39257 [v30,v28] (OB))
 (.l))))
 (.m 41089 [v22,v33] (Da) (.m 40060 [v38,v31] (.ap [dV,bV]) (.m 40052 [v35,v31] (OB) (.o 40042 [v24,v31] (.ap [bV,v24]))
 (.l))
 (.m 40567 [v28,v30] (.ap [bV,v28]) (.o 40563 [v22,v30] (Da))
 (.l)))
 (.m 44245 [v22,v38] (Da) (.m 44244 [bV,v38] (PZ) (.o 42164 [v38,v35] (.ap [v22,v31]))
 (.l))
 (.m 63184 [v27,v36] (.ap [bV,v27]) (.o 44268 [v38,v38] (F0))
 (.l))))]
def k3:List (Nat×aC):=[(164,acm)]
def atF:iZ prog aU T0 k3=true:=by decide+kernel
def t1:Tr aC:=(.n 81 aee (.n 44 ad7 (.n 31 ad4 (.n 15 ad2 (.n 14 ad1 .l .l) (.n 29 ad3 .l .l)) (.n 38 ad6 (.n 33 ad5 .l .l) .l)) (.n 59 aeb (.n 47 ad9 (.n 46 ad8 .l .l) (.n 48 aea .l .l)) (.n 80 aed (.n 68 aec .l .l) .l))) (.n 124 acf (.n 101 aca (.n 96 aeh (.n 94 (aef++aeg) .l .l) (.n 100 ab9 .l .l)) (.n 119 (acd++ace) (.n 118 acb .l .l) .l)) (.n 134 aci (.n 129 ach (.n 125 acg .l .l) .l) (.n 164 (ack++acm) (.n 151 acj .l .l) .l))))
def T1:List (Tr aC):=t1::T0
def atG {O:bA} (hO:eP O) (hp:O.prog=prog) (hl:O.aU=aU):eT O T1:=by
 have h:=atA hO hp hl;have c0:=kK hO hp hl h atB;have c1:=kK hO hp hl h atD;have c2:=kK hO hp hl h atE;have c3:=kK hO hp hl h atF;exact eT.cons (aN (c0 13 rfl) (aN (c0 6 rfl) (aN (c0 3 rfl) (aN (c0 1 rfl) (aN (c0 0 rfl) aL aL) (aN (c0 2 rfl) aL aL)) (aN (c0 5 rfl) (aN (c0 4 rfl) aL aL) aL)) (aN (c0 10 rfl) (aN (c0 8 rfl) (aN (c0 7 rfl) aL aL) (aN (c0 9 rfl) aL aL)) (aN (c0 12 rfl) (aN (c0 11 rfl) aL aL) aL))) (aN (c2 1 rfl) (aN (c1 3 rfl) (aN (c1 1 rfl) (aN (.dL (c0 14 rfl) (c1 0 rfl)) aL aL) (aN (c1 2 rfl) aL aL)) (aN (.dL (c1 5 rfl) (c2 0 rfl)) (aN (c1 4 rfl) aL aL) aL)) (aN (c2 4 rfl) (aN (c2 3 rfl) (aN (c2 2 rfl) aL aL) aL) (aN (.dL (c2 6 rfl) (c3 0 rfl)) (aN (c2 5 rfl) aL aL) aL)))) h
def aei:aC:=[.m 47931 [JO,JO] (.bool true) (.o 9899 [OC,OC] (.bool true))
 (.l),
 .o 9899 [Ul,Ul] (.bool true)]
def aej:aC:=[.o 7 [] (v109)]
def aek:aC:=[.o 58093 [.aE false 1 [FY],.aE true 1 [FY]] (.bool true)]
def ael:aC:=[.m 43068 [j 1,j 1,j 2147483646] (j 0) (.m 25938 [j 2,j 1,j 16] (j 0) (.o 11651 [j 1,j 0,j 1000] (j 0))
 (.l))
 (.m 55041 [j 1,j (-999999999),j 999999999] (j 0) (.o 55040 [j 0,j (-999999999),j 999999999] (j 0))
 (.l))]
def aem:aC:=[.m 25649 [j 0,Wk,.fn (.f 38) [] []] (j 5) (.o 12396 [j 0,.aE false 1 [j 4],.fn (.f 81) [] []] (j 4))
 (.l)]
def aen:aC:=[.m 36730 [v11,v11] (v11) (.m 36468 [v42,v12] (v12) (.m 36467 [v11,v12] (v12) (.o 36466 [v12,v12] (v12))
 (.l))
 (.o 36729 [v12,v11] (v12)))
 (.m 37256 [v11,v40] (v40) (.m 37255 [v12,v40] (v12) (.o 36992 [v12,v42] (v12))
 (.l))
 (.o 37781 [v12,nl] (v12)))]
def aeo:aC:=[.m 31055 [An,nl] (.bool true) (.o 15352 [FZ,nl] (.bool true))
 (.l)]
def aep:aC:=[.m 39101 [nl,v44] (j (-1)) (.o 39098 [v42,v44] (j (-1)))
 (.l)]
def aeq:aC:=[.m 36730 [v11,v11] (v42) (.m 36469 [v40,v12] (v40) (.m 36467 [v11,v12] (v11) (.o 36466 [v12,v12] (v12))
 (.l))
 (.o 36729 [v12,v11] (v11)))
 (.m 37002 [v44,.agg [j (-2),.ab,j 1,.ab]] (Wl) (.o 36731 [v42,v11] (v40))
 (.o 37255 [v12,v40] (v40))),
 .m 37002 [v44,v42] (v46) (.o 36467 [v11,v47] (v12))
 (.l)]
def aer:aC:=[.o 4689 [JP,.fn (.f 80) [] []] (.cJ false 1 1 [j 4])]
def aes:aC:=[.m 2150 [.str [52]] (j 0) (.m 2147 [v4] (j 0) (.o 2146 [v0] (j 0))
 (.o 2149 [.str [51]] (j 0)))
 (.m 14754 [v20] (j 0) (.o 2151 [v21] (j 0))
 (.l))]
def aet:aC:=[.m 5504 [cz,j 1,j 2] (j 1) (.m 2119 [cz,j 2,j 1] (j 2) (.m 1856 [cz,j 1,j 1] (j 3) (.o 1593 [cz,j (-1),j 1] (j 3))
 (.l))
 (.o 5241 [cz,j (-1),j 2] (j 1)))
 (.m 63729 [cz,j 1,j 0] (j 1) (.m 63466 [cz,j (-1),j 0] (j 1) (.o 5767 [cz,j 2,j 2] (j 0))
 (.l))
 (.o 63992 [cz,j 2,j 0] (j 0))),
 .m 63466 [cz,j 0,j 0] (j 0) (.m 5241 [cz,j 0,j 2] (j 0) (.o 1593 [cz,j 0,j 1] (j 2))
 (.l))
 (.m 63992 [cz,j 2,j (-1)] (j 2) (.o 63729 [cz,j 1,j (-1)] (j 3))
 (.l)),
 .o 63466 [cz,j (-1),j (-1)] (j 3),
 .o 63466 [cz,j 0,j (-1)] (j 2)]
def acn:aC:=[.m 62435 [v48,j 1,j 2] (v49) (.o 62172 [v48,j 0,j 2] (KP))
 (.l)]
def k4:List (Nat×aC):=[(21,aei),(23,aej),(28,aek),(34,ael),(37,aem),(49,aen),(63,aeo),(71,aep),(74,aeq),(79,aer),(86,aes),(97,aet),(105,acn)]
def atH:iZ prog aU T1 k4=true:=by decide+kernel
def aco:aC:=[.m 60093 [v51,j 1,j 2] (v49) (.m 51383 [DB,j 0,j 2] (KP) (.m 5625 [v53,j 2,j 2] (KQ) (.m 5362 [v53,j 1,j 2] (KP) (.o 5099 [v53,j 0,j 2] (v49))
 (.l))
 (.o 5888 [v53,j 3,j 2] (KR)))
 (.m 52172 [DB,j 3,j 2] (KQ) (.m 51909 [DB,j 2,j 2] (KR) (.o 51646 [DB,j 1,j 2] (v49))
 (.l))
 (.o 59830 [v51,j 0,j 2] (KP))))
 (.m 60620 [DC,j 2,j 2] (v49) (.m 60357 [DC,j 1,j 2] (KR) (.m 60356 [v51,j 2,j 2] (KR) (.o 60094 [DC,j 0,j 2] (KQ))
 (.l))
 (.o 60619 [v51,j 3,j 2] (KQ)))
 (.m 62698 [v48,j 2,j 2] (KR) (.o 60883 [DC,j 3,j 2] (KP))
 (.o 62961 [v48,j 3,j 2] (KQ))))]
def acp:aC:=[.m 9006 [dn] (.bool false) (.m 5358 [v11] (.bool false) (.o 5357 [v12] (.bool false))
 (.l))
 (.m 23741 [su] (.bool false) (.o 9008 [v10] (.bool false))
 (.l))]
def acq:aC:=[.m 44894 [sA] (.agg [v2,v4]) (.o 14255 [qQ] (.agg [v0,v2]))
 (.o 52488 [v59] (.agg [v3,v0]))]
def acr:aC:=[.m 41248 [PT] (.cJ true 1 2 [v4,v4]) (.o 19556 [KS] (.cJ true 1 4 [v2,v0,v0,v0]))
 (.l)]
def acs:aC:=[.m 38990 [v24,v27] (v25) (.m 38724 [dV,dV] (dV) (.m 38461 [dV,v25] (v22) (.m 38459 [v22,v25] (v22) (.o 38458 [bV,v25] (v25))
 (.o 38460 [v25,v25] (v25)))
 (.m 38722 [v22,dV] (v22) (.o 38462 [v27,v25] (v25))
 (.l)))
 (.m 38986 [v25,v27] (v25) (.m 38985 [v22,v27] (v22) (.o 38984 [bV,v27] (v27))
 (.l))
 (.m 38988 [v27,v27] (v27) (.o 38987 [dV,v27] (v22))
 (.l))))
 (.m 40567 [v28,v30] (v28) (.m 40042 [v24,v31] (v25) (.m 38998 [FT,v27] (v25) (.o 38993 [FV,v27] (v22))
 (.o 40037 [v22,v31] (v22)))
 (.m 40563 [v22,v30] (v22) (.o 40046 [v30,v31] (v25))
 (.l)))
 (.m 44244 [bV,v38] (v38) (.m 42164 [v38,v35] (v31) (.o 41089 [v22,v33] (v22))
 (.l))
 (.m 63184 [v27,v36] (v27) (.o 44245 [v22,v38] (v22))
 (.l))))]
def acu:aC:=[.m 53443 [FR,.fn (.f 94) [] [.aI [j 1000]]] (j (-1)) (.m 53180 [v7,.fn (.f 94) [] [.aI [j 1000]]] (j (-1)) (.o 52652 [v6,.fn (.f 94) [] [.aI [j 1000]]] (j (-1)))
 (.l))
 (.m 59943 [PU,.fn (.f 94) [] [.aI [j 100]]] (j (-1)) (.o 59680 [v8,.fn (.f 94) [] [.aI [j 100]]] (j (-1)))
 (.l))]
def acv:aC:=[.m 9006 [dn] (bV) (.o 5357 [v12] (bV))
 (.l)]
def k5:List (Nat×aC):=[(105,aco),(107,acp),(114,acq),(123,acr),(130,acs),(132,acu),(149,acv)]
def atI:iZ prog aU T1 k5=true:=by decide+kernel
def acw:aC:=[.m 9008 [v10] (v22) (.o 5358 [v11] (v22))
 (.l)]
def acx:aC:=[.m 52923 [v30,j 2] (v37) (.o 52660 [v30,j 1] (v30))
 (.l)]
def k6:List (Nat×aC):=[(149,acw),(155,acx)]
def atJ:iZ prog aU T1 k6=true:=by decide+kernel
def t2:Tr aC:=(.n 86 aes (.n 49 aen (.n 28 aek (.n 23 aej (.n 21 aei .l .l) .l) (.n 37 aem (.n 34 ael .l .l) .l)) (.n 74 aeq (.n 71 aep (.n 63 aeo .l .l) .l) (.n 79 aer .l .l))) (.n 123 acr (.n 107 acp (.n 105 (acn++aco) (.n 97 aet .l .l) .l) (.n 114 acq .l .l)) (.n 149 (acv++acw) (.n 132 acu (.n 130 acs .l .l) .l) (.n 155 acx .l .l))))
def T2:List (Tr aC):=t2::T1
def atK {O:bA} (hO:eP O) (hp:O.prog=prog) (hl:O.aU=aU):eT O T2:=by
 have h:=atG hO hp hl;have c4:=kK hO hp hl h atH;have c5:=kK hO hp hl h atI;have c6:=kK hO hp hl h atJ;exact eT.cons (aN (c4 10 rfl) (aN (c4 5 rfl) (aN (c4 2 rfl) (aN (c4 1 rfl) (aN (c4 0 rfl) aL aL) aL) (aN (c4 4 rfl) (aN (c4 3 rfl) aL aL) aL)) (aN (c4 8 rfl) (aN (c4 7 rfl) (aN (c4 6 rfl) aL aL) aL) (aN (c4 9 rfl) aL aL))) (aN (c5 3 rfl) (aN (c5 1 rfl) (aN (.dL (c4 12 rfl) (c5 0 rfl)) (aN (c4 11 rfl) aL aL) aL) (aN (c5 2 rfl) aL aL)) (aN (.dL (c5 6 rfl) (c6 0 rfl)) (aN (c5 5 rfl) (aN (c5 4 rfl) aL aL) aL) (aN (c6 1 rfl) aL aL)))) h
def aeu:aC:=[.o 1842 [j 1] (j 0)]
def aev:aC:=[.m 45155 [j 0,j 1,.aI [v105],.aI [cz],.aI [j 1]] (j 2) (.m 44893 [j 1,j 0,.aI [v105],.aI [cz],.aI [j 1]] (j 4) (.o 44892 [j 0,j 0,.aI [v105],.aI [cz],.aI [j 1]] (j 2))
 (.l))
 (.o 45156 [j 1,j 1,.aI [v105],.aI [cz],.aI [j 1]] (j 4))]
def aew:aC:=[.m 36730 [v11,v11] (v12) (.m 36467 [v11,v12] (v11) (.o 36466 [v12,v12] (v12))
 (.l))
 (.o 37002 [v44,v42] (Wl))]
def aex:aC:=[.m 1842 [j 1] (j 0) (.o 1841 [j 0] (j 0))
 (.l)]
def aey:aC:=[.m 45155 [j 0,j 1,.aI [cz],.aI [j 1],.aI [j 0]] (j 1) (.m 44893 [j 1,j 0,.aI [cz],.aI [j 1],.aI [j 0]] (j 1) (.o 44892 [j 0,j 0,.aI [cz],.aI [j 1],.aI [j 0]] (j 1))
 (.l))
 (.o 45156 [j 1,j 1,.aI [cz],.aI [j 1],.aI [j 0]] (j 1))]
def aez:aC:=[.m 42377 [v91] (j 0) (.o 42376 [v87] (j 0))
 (.o 42639 [mN] (j 0))]
def aeA:aC:=[.m 9008 [v10] (OD) (.o 9006 [dn] (.ap [v2,j 0]))
 (.l)]
def aeB:aC:=[.m 45155 [j 0,j 1,.aI [cz],.aI [j 1],.aI [j 0]] (j 3) (.m 44893 [j 1,j 0,.aI [cz],.aI [j 1],.aI [j 0]] (j 0) (.o 44892 [j 0,j 0,.aI [cz],.aI [j 1],.aI [j 0]] (j 1))
 (.l))
 (.o 45156 [j 1,j 1,.aI [cz],.aI [j 1],.aI [j 0]] (j 2))]
def aeC:aC:=[.m 65476 [v63,v11] (v63) (.o 1007 [v63,nl] (v63))
 (.l)]
def aeD:aC:=[.o 29001 [v107,.fn (.f 86) [] []] (.cJ false 1 1 [j 0])]
def aeE:aC:=[.m 53443 [FR,.fn (.f 94) [] [.aI [j 1000]]] (.bool false) (.m 53180 [v7,.fn (.f 94) [] [.aI [j 1000]]] (.bool false) (.o 52652 [v6,.fn (.f 94) [] [.aI [j 1000]]] (.bool false))
 (.l))
 (.m 59943 [PU,.fn (.f 94) [] [.aI [j 100]]] (.bool false) (.o 59680 [v8,.fn (.f 94) [] [.aI [j 100]]] (.bool false))
 (.l))]
def acy:aC:=[.m 38990 [v24,v27] (v10) (.m 38724 [dV,dV] (v11) (.m 38461 [dV,v25] (v10) (.m 38459 [v22,v25] (dn) (.o 38458 [bV,v25] (v12))
 (.o 38460 [v25,v25] (v11)))
 (.m 38722 [v22,dV] (Wm) (.o 38462 [v27,v25] (v42))
 (.l)))
 (.m 38986 [v25,v27] (dn) (.m 38985 [v22,v27] (v65) (.o 38984 [bV,v27] (v12))
 (.l))
 (.m 38988 [v27,v27] (v11) (.o 38987 [dV,v27] (FW))
 (.l))))
 (.m 40567 [v28,v30] (dn) (.m 40042 [v24,v31] (FW) (.m 38998 [FT,v27] (FX) (.o 38993 [FV,v27] (v68))
 (.o 40037 [v22,v31] (v69)))
 (.m 40563 [v22,v30] (v70) (.o 40046 [v30,v31] (PR))
 (.l)))
 (.m 44244 [bV,v38] (v12) (.m 42164 [v38,v35] (v10) (.o 41089 [v22,v33] (Wn))
 (.l))
 (.m 63184 [v27,v36] (su) (.o 44245 [v22,v38] (su))
 (.l))))]
def acz:aC:=[.m 47498 [v12,.aE false 4 [j 0,.ab,j 1,.ab,j 0,.ab,j 1,.ab,j 1,.ab,j 1,.ab,j 0,.ab,j 1,.ab],.fn (.f 74) [] []] (v11) (.o 20032 [v12,.aE false 4 [j 3,.ab,j 1,.ab,j 0,.ab,j 1,.ab,j 0,.ab,j 1,.ab,j 0,.ab,j 1,.ab],.fn (.f 74) [] []] (v40))
 (.l)]
def acA:aC:=[.o 2147 [v4] (v22)]
def k7:List (Nat×aC):=[(36,aeu),(41,aev),(50,aew),(51,aex),(52,aey),(53,aez),(57,aeA),(58,aeB),(75,aeC),(85,aeD),(95,aeE),(101,acy),(106,acz),(110,acA)]
def atL:iZ prog aU T2 k7=true:=by decide+kernel
def acB:aC:=[.m 2150 [.str [52]] (v27) (.m 2148 [.str [50]] (v25) (.o 2146 [v0] (bV))
 (.o 2149 [.str [51]] (dV)))
 (.m 14754 [v20] (v30) (.o 2151 [v21] (v28))
 (.l))]
def acC:aC:=[.o 25238 [v63,v63] (v63)]
def acD:aC:=[.m 44894 [sA] (.bool false) (.o 14255 [qQ] (.bool false))
 (.o 52488 [v59] (.bool false))]
def acE:aC:=[.m 36994 [v72,v73] (v11) (.o 11145 [PV,PV] (v42))
 (.l)]
def acF:aC:=[.m 44566 [KS,.fn (.f 107) [] []] (j (-1)) (.o 737 [PT,.fn (.f 107) [] []] (j (-1)))
 (.l)]
def acG:aC:=[.o 42642 [v93] (j 0)]
def k8:List (Nat×aC):=[(110,acB),(112,acC),(113,acD),(131,acE),(160,acF),(161,acG)]
def atM:iZ prog aU T2 k8=true:=by decide+kernel
def t3:Tr aC:=(.n 85 aeD (.n 52 aey (.n 50 aew (.n 41 aev (.n 36 aeu .l .l) .l) (.n 51 aex .l .l)) (.n 58 aeB (.n 57 aeA (.n 53 aez .l .l) .l) (.n 75 aeC .l .l))) (.n 112 acC (.n 106 acz (.n 101 acy (.n 95 aeE .l .l) .l) (.n 110 (acA++acB) .l .l)) (.n 160 acF (.n 131 acE (.n 113 acD .l .l) .l) (.n 161 acG .l .l))))
def T3:List (Tr aC):=t3::T2
def atN {O:bA} (hO:eP O) (hp:O.prog=prog) (hl:O.aU=aU):eT O T3:=by
 have h:=atK hO hp hl;have c7:=kK hO hp hl h atL;have c8:=kK hO hp hl h atM;exact eT.cons (aN (c7 9 rfl) (aN (c7 4 rfl) (aN (c7 2 rfl) (aN (c7 1 rfl) (aN (c7 0 rfl) aL aL) aL) (aN (c7 3 rfl) aL aL)) (aN (c7 7 rfl) (aN (c7 6 rfl) (aN (c7 5 rfl) aL aL) aL) (aN (c7 8 rfl) aL aL))) (aN (c8 1 rfl) (aN (c7 12 rfl) (aN (c7 11 rfl) (aN (c7 10 rfl) aL aL) aL) (aN (.dL (c7 13 rfl) (c8 0 rfl)) aL aL)) (aN (c8 4 rfl) (aN (c8 3 rfl) (aN (c8 2 rfl) aL aL) aL) (aN (c8 5 rfl) aL aL)))) h
def aeF:aC:=[.m 57092 [cz,j 1000] (j 0) (.o 28943 [v105,j 100] (j 0))
 (.o 61531 [JO,j 1000] (j 0))]
def aeG:aC:=[.o 56899 [Wk,.fn (.f 36) [] []] (.cJ false 1 5 [j 0,j 0,j 0,j 0,j 0])]
def aeH:aC:=[.o 26853 [j 2,.fn (.f 58) [] [.aI [cz],.aI [j 1],.aI [j 0]]] (OC),
 .o 26853 [j 2,.fn (.f 41) [] [.aI [v105],.aI [cz],.aI [j 1]]] (JO)]
def aeI:aC:=[.m 32083 [v75,v65] (v10) (.m 17515 [v10,v10] (v68) (.m 13339 [v11,dn] (dn) (.m 13338 [v12,dn] (v12) (.o 5093 [v70,nl] (dn))
 (.l))
 (.m 16987 [dn,dn] (v65) (.o 13342 [v76,dn] (v42))
 (.l)))
 (.m 22905 [v11,su] (su) (.m 22904 [v12,su] (v12) (.o 22778 [nl,v70] (dn))
 (.l))
 (.o 32081 [v76,v65] (v11))))
 (.m 47411 [v65,v12] (v12) (.m 40378 [dn,v11] (dn) (.m 40115 [dn,v12] (v12) (.o 32091 [v77,v65] (FX))
 (.l))
 (.m 40904 [dn,v40] (v10) (.o 40641 [dn,v42] (v11))
 (.l)))
 (.m 48200 [v65,v40] (FW) (.m 47937 [v65,v42] (dn) (.o 47674 [v65,v11] (v65))
 (.l))
 (.o 55471 [v40,Wm] (v11))))]
def aeJ:aC:=[.m 2151 [v21] (nl) (.m 2149 [.str [51]] (v40) (.m 2147 [v4] (v11) (.o 2146 [v0] (v12))
 (.l))
 (.o 2150 [.str [52]] (v76)))
 (.m 45023 [v2] (dn) (.m 17849 [v5] (v70) (.o 14754 [v20] (v44))
 (.l))
 (.o 45025 [v1] (v10)))]
def aeK:aC:=[.m 44894 [sA] (.ap [.agg [v2,v4],j 0]) (.o 14255 [qQ] (.ap [.agg [v0,v2],j 0]))
 (.o 52488 [v59] (.ap [.agg [v3,v0],j 0]))]
def aeL:aC:=[.o 25239 [PW,v63] (PW)]
def aeM:aC:=[.m 5365 [Wl] (v69) (.m 5360 [v40] (Wm) (.o 5359 [v42] (dn))
 (.o 5361 [v76] (v65)))
 (.m 5369 [v46] (Wn) (.o 5367 [v44] (v70))
 (.l))]
def aeN:aC:=[.m 32077 [v12,v65] (v65) (.m 13338 [v12,dn] (dn) (.m 13076 [v11,.agg [j (-1),.ab,j 2,.ab]] (dn) (.o 1265 [v69,.agg [j (-1),.ab,j 12,.ab]] (su))
 (.l))
 (.m 24283 [v65,dn] (FW) (.o 16987 [dn,dn] (v11))
 (.l)))
 (.m 40117 [v10,v47] (dn) (.m 40115 [dn,v12] (dn) (.o 39677 [FX,.agg [j (-9),.ab,j 4,.ab]] (PR))
 (.l))
 (.o 43550 [FW,FW] (v10)))]
def aeO:aC:=[.m 45023 [v2] (j 0) (.o 17849 [v5] (j 0))
 (.o 45025 [v1] (j 0))]
def aeP:aC:=[.o 30369 [v72,.aI [v73]] (v11)]
def k9:List (Nat×aC):=[(32,aeF),(35,aeG),(40,aeH),(49,aeI),(62,aeJ),(65,aeK),(72,aeL),(73,aeM),(74,aeN),(86,aeO),(91,aeP)]
def atO:iZ prog aU T3 k9=true:=by decide+kernel
def abv:aC:=[.m 21813 [DC] (v79) (.o 21549 [v51] (v79))
 (.l)]
def abw:aC:=[.o 1866 [Um,.fn (.f 53) [] []] (.cJ false 1 1 [j 0])]
def abx:aC:=[.m 44566 [KS,.fn (.f 107) [] []] (.bool false) (.o 737 [PT,.fn (.f 107) [] []] (.bool false))
 (.l)]
def aby:aC:=[.o 2131 [v93,.aI [Fu]] (j 0)]
def k10:List (Nat×aC):=[(104,abv),(121,abw),(122,abx),(126,aby)]
def aq2:iZ prog aU T3 k10=true:=by decide+kernel
def t4:Tr aC:=(.n 73 aeM (.n 49 aeI (.n 35 aeG (.n 32 aeF .l .l) (.n 40 aeH .l .l)) (.n 65 aeK (.n 62 aeJ .l .l) (.n 72 aeL .l .l))) (.n 104 abv (.n 86 aeO (.n 74 aeN .l .l) (.n 91 aeP .l .l)) (.n 122 abx (.n 121 abw .l .l) (.n 126 aby .l .l))))
def T4:List (Tr aC):=t4::T3
def atP {O:bA} (hO:eP O) (hp:O.prog=prog) (hl:O.aU=aU):eT O T4:=by
 have h:=atN hO hp hl;have c9:=kK hO hp hl h atO;have P0:=kK hO hp hl h aq2;exact eT.cons (aN (c9 7 rfl) (aN (c9 3 rfl) (aN (c9 1 rfl) (aN (c9 0 rfl) aL aL) (aN (c9 2 rfl) aL aL)) (aN (c9 5 rfl) (aN (c9 4 rfl) aL aL) (aN (c9 6 rfl) aL aL))) (aN (P0 0 rfl) (aN (c9 9 rfl) (aN (c9 8 rfl) aL aL) (aN (c9 10 rfl) aL aL)) (aN (P0 2 rfl) (aN (P0 1 rfl) aL aL) (aN (P0 3 rfl) aL aL)))) h
def aeQ:aC:=[.o 32481 [cz] (j 0)]
def aeR:aC:=[.o 31824 [j 1,j 2,Wk] (.ap [Ul,j 0])]
def acH:aC:=[.m 37836 [FX,v68] (PR) (.m 13339 [v11,dn] (dn) (.o 1528 [v69,Wn] (su))
 (.l))
 (.m 40380 [v10,v11] (dn) (.o 40115 [dn,v12] (dn))
 (.l))]
def acI:aC:=[.m 26771 [PY] (j 0) (.m 19734 [PX] (j 0) (.o 19732 [.agg [v2,v0]] (j 0))
 (.l))
 (.o 58079 [.agg [v5,v0]] (j 0))]
def acJ:aC:=[.m 42376 [v87] (v63) (.m 19734 [PX] (v80) (.o 19732 [.agg [v2,v0]] (DD))
 (.o 26771 [PY] (v82)))
 (.m 42639 [mN] (v83) (.o 42377 [v91] (PW))
 (.o 58079 [.agg [v5,v0]] (v84)))]
def acK:aC:=[.o 44745 [DC,cz] (v40)]
def acL:aC:=[.m 25846 [v21,j 0] (j 0) (.m 25845 [.str [52],j 0] (j 0) (.o 25841 [v0,j 0] (j 0))
 (.l))
 (.m 38449 [v20,j 0] (j 0) (.o 26105 [v4,j 1] (j 0))
 (.l))]
def acM:aC:=[.o 13594 [sB,nl] (.bool true)]
def acN:aC:=[.m 37522 [v76,v76] (v11) (.m 36996 [v76,v42] (v42) (.m 36993 [v11,v42] (dn) (.o 36992 [v12,v42] (v12))
 (.l))
 (.o 37258 [v40,v40] (v11)))
 (.m 37532 [v77,v76] (FX) (.o 37524 [v75,v76] (v10))
 (.o 39101 [nl,v44] (dn)))]
def acO:aC:=[.m 33840 [v84,nl] (DD) (.m 3604 [DD,v11] (DD) (.o 3341 [DD,v12] (v63))
 (.o 10745 [sA,v11] (sA)))
 (.m 49226 [v83,dn] (qQ) (.o 45627 [qQ,v11] (qQ))
 (.o 51652 [PW,su] (v59)))]
def acP:aC:=[.o 42377 [Um] (j 0)]
def acQ:aC:=[.m 41248 [PT] (.ap [v93,j 0]) (.o 19556 [KS] (.ap [FY,j 0]))
 (.l)]
def acR:aC:=[.m 42642 [v93] (.cJ true 4 2 [j 1,.ab,j 1,.ab,j 1,.ab,j 1,.ab]) (.o 3991 [v107] (.cJ true 4 1 [j 3,.ab,j 1,.ab]))
 (.l)]
def acS:aC:=[.o 2579 [.aE false 1 [PV],.aI [v4]] (.cJ false 1 1 [v85])]
def acT:aC:=[.o 63847 [.aE true 2 [v72,v72],.fn (.f 91) [] [.aI [v73]]] (.cJ false 4 2 [j 1,.ab,j 1,.ab,j 1,.ab,j 1,.ab])]
def abz:aC:=[.m 61636 [v12,KS,.fn (.f 74) [] []] (dn) (.o 47668 [v12,.aE false 4 [j 0,.ab,j 1,.ab,j 1,.ab,j 4,.ab,j 1,.ab,j 2,.ab,j 3,.ab,j 4,.ab],.fn (.f 74) [] []] (v10))
 (.l)]
def abA:aC:=[.m 12900 [sA,DD] (Wo) (.m 9251 [v83,DD] (sA) (.o 5389 [qQ,v63] (qQ))
 (.l))
 (.o 36028 [sA,v63] (sA))]
def abB:aC:=[.o 3973 [Fu,.fn (.f 126) [] [.aI [Fu]]] (j 0)]
def k11:List (Nat×aC):=[(4,aeQ),(5,aeR),(50,acH),(53,acI),(54,acJ),(56,acK),(61,acL),(63,acM),(70,acN),(75,acO),(78,acP),(83,acQ),(88,acR),(89,acS),(92,acT),(106,abz),(112,abA),(127,abB)]
def aq3:iZ prog aU T4 k11=true:=by decide+kernel
def t5:Tr aC:=(.n 75 acO (.n 54 acJ (.n 50 acH (.n 5 aeR (.n 4 aeQ .l .l) .l) (.n 53 acI .l .l)) (.n 63 acM (.n 61 acL (.n 56 acK .l .l) .l) (.n 70 acN .l .l))) (.n 92 acT (.n 88 acR (.n 83 acQ (.n 78 acP .l .l) .l) (.n 89 acS .l .l)) (.n 112 abA (.n 106 abz .l .l) (.n 127 abB .l .l))))
def T5:List (Tr aC):=t5::T4
def atQ {O:bA} (hO:eP O) (hp:O.prog=prog) (hl:O.aU=aU):eT O T5:=by
 have h:=atP hO hp hl;have iD:=kK hO hp hl h aq3;exact eT.cons (aN (iD 9 rfl) (aN (iD 4 rfl) (aN (iD 2 rfl) (aN (iD 1 rfl) (aN (iD 0 rfl) aL aL) aL) (aN (iD 3 rfl) aL aL)) (aN (iD 7 rfl) (aN (iD 6 rfl) (aN (iD 5 rfl) aL aL) aL) (aN (iD 8 rfl) aL aL))) (aN (iD 14 rfl) (aN (iD 12 rfl) (aN (iD 11 rfl) (aN (iD 10 rfl) aL aL) aL) (aN (iD 13 rfl) aL aL)) (aN (iD 16 rfl) (aN (iD 15 rfl) aL aL) (aN (iD 17 rfl) aL aL)))) h
def aeS:aC:=[.o 63249 [cz,v105] (.ap [JO,j 0])]
def acU:aC:=[.o 63729 [cz,j 1,j 0] (.ap [OC,j 0])]
def acV:aC:=[.o 26853 [j 2,.fn (.f 44) [] [.aI [cz]]] (v10),
 .o 26853 [j 2,.fn (.f 47) [] [.aI [cz]]] (v10),
 .o 26853 [j 2,.fn (.f 48) [] [.aI [cz]]] (FX),
 .o 26853 [j 2,.fn (.f 52) [] [.aI [cz],.aI [j 1],.aI [j 0]]] (v11)]
def acW:aC:=[.m 48449 [FZ] (j 0) (.o 46691 [sB] (j 0))
 (.o 64152 [An] (j 0))]
def acX:aC:=[.m 13425 [FZ,nl,v87] (v63) (.o 5737 [An,nl,mN] (sA))
 (.o 53797 [sB,nl,mN] (qQ))]
def acY:aC:=[.o 44484 [Fu] (j 0)]
def acZ:aC:=[.o 3973 [Fu,.fn (.f 88) [] []] (.cJ false 1 1 [PV])]
def ac0:aC:=[.o 39364 [.aE false 1 [v85],.aE true 1 [j 3,.ab,j 1,.ab]] (.cJ true 4 1 [j 1,.ab,j 1,.ab])]
def abC:aC:=[.m 33227 [dn,j 2] (.ap [j 0,dn]) (.m 29579 [v11,j 2] (.ap [j 1,v12]) (.o 29578 [v12,j 2] (.ap [j 0,v12]))
 (.l))
 (.o 33229 [v10,j 2] (.ap [j 1,dn]))]
def abD:aC:=[.m 23891 [v48] (.agg [j 1,.ab,j 4,.ab,j 1,.ab,j 4,.ab,j 1,.ab,j 4,.ab,j 1,.ab,j 4,.ab]) (.o 13102 [DB] (.agg [j 1,.ab,j 2,.ab,j 0,.ab,j 1,.ab,j 1,.ab,j 2,.ab,j 0,.ab,j 1,.ab]))
 (.o 32339 [v53] (.agg [j 1,.ab,j 2,.ab,j 1,.ab,j 2,.ab,j 0,.ab,j 1,.ab,j 0,.ab,j 1,.ab]))]
def abE:aC:=[.o 45199 [v109] (j 0)]
def k12:List (Nat×aC):=[(9,aeS),(20,acU),(45,acV),(60,acW),(64,acX),(84,acY),(87,acZ),(90,ac0),(103,abC),(104,abD),(115,abE)]
def aq4:iZ prog aU T5 k12=true:=by decide+kernel
def t6:Tr aC:=(.n 84 acY (.n 45 acV (.n 20 acU (.n 9 aeS .l .l) .l) (.n 64 acX (.n 60 acW .l .l) .l)) (.n 103 abC (.n 90 ac0 (.n 87 acZ .l .l) .l) (.n 115 abE (.n 104 abD .l .l) .l)))
def T6:List (Tr aC):=t6::T5
def atS {O:bA} (hO:eP O) (hp:O.prog=prog) (hl:O.aU=aU):eT O T6:=by
 have h:=atQ hO hp hl;have qR:=kK hO hp hl h aq4;exact eT.cons (aN (qR 5 rfl) (aN (qR 2 rfl) (aN (qR 1 rfl) (aN (qR 0 rfl) aL aL) aL) (aN (qR 4 rfl) (aN (qR 3 rfl) aL aL) aL)) (aN (qR 8 rfl) (aN (qR 7 rfl) (aN (qR 6 rfl) aL aL) aL) (aN (qR 10 rfl) (aN (qR 9 rfl) aL aL) aL))) h
def ac1:aC:=[.o 32481 [cz] (OD)]
def ac2:aC:=[.o 32481 [cz] (.ap [.str [53,47,52],j 0])]
def ac3:aC:=[.o 63729 [cz,j 1,j 0] (.ap [v4,j 0])]
def ac4:aC:=[.m 61077 [sB,v21,mN] (.ap [.agg [v0,v2],j 0]) (.o 13017 [An,v21,mN] (.ap [.agg [v2,v4],j 0]))
 (.l)]
def ac5:aC:=[.o 12660 [sB,.str [52],v87,v91] (.ap [.agg [v3,v0],j 0])]
def ac6:aC:=[.o 53661 [Fu,v107,v4] (.ap [v93,j 0])]
def ac7:aC:=[.m 58325 [v63,j 2] (v51) (.m 42125 [v82,j 2] (v48) (.o 38476 [qQ,j 2] (DB))
 (.l))
 (.m 65467 [Wo,j 2] (DC) (.o 61976 [v80,j 2] (v53))
 (.l))]
def ac8:aC:=[.m 46823 [v48,cz] (v10) (.o 36034 [DB,cz] (v11))
 (.o 55271 [v53,cz] (dn))]
def ac9:aC:=[.m 62507 [v109,sB,mN,j 0] (j 0) (.o 44889 [v109,An,mN,j 1] (j 0))
 (.l)]
def ada:aC:=[.o 7939 [.aE true 1 [v0,v0,v0],.fn (.f 60) [] []] (.cJ false 1 1 [j 0])]
def abF:aC:=[.m 44889 [v109,An,mN,j 1] (Wo) (.o 24084 [v109,FZ,v87,j 0] (v63))
 (.o 62507 [v109,sB,mN,j 0] (qQ))]
def abG:aC:=[.o 4689 [JP,.fn (.f 115) [] []] (.cJ false 1 1 [j 0])]
def k13:List (Nat×aC):=[(16,ac1),(17,ac2),(18,ac3),(22,ac4),(25,ac5),(27,ac6),(55,ac7),(56,ac8),(66,ac9),(77,ada),(116,abF),(120,abG)]
def aq5:iZ prog aU T6 k13=true:=by decide+kernel
def t7:Tr aC:=(.n 55 ac7 (.n 22 ac4 (.n 17 ac2 (.n 16 ac1 .l .l) (.n 18 ac3 .l .l)) (.n 27 ac6 (.n 25 ac5 .l .l) .l)) (.n 77 ada (.n 66 ac9 (.n 56 ac8 .l .l) .l) (.n 120 abG (.n 116 abF .l .l) .l)))
def T7:List (Tr aC):=t7::T6
def atT {O:bA} (hO:eP O) (hp:O.prog=prog) (hl:O.aU=aU):eT O T7:=by
 have h:=atS hO hp hl;have pK:=kK hO hp hl h aq5;exact eT.cons (aN (pK 6 rfl) (aN (pK 3 rfl) (aN (pK 1 rfl) (aN (pK 0 rfl) aL aL) (aN (pK 2 rfl) aL aL)) (aN (pK 5 rfl) (aN (pK 4 rfl) aL aL) aL)) (aN (pK 9 rfl) (aN (pK 8 rfl) (aN (pK 7 rfl) aL aL) aL) (aN (pK 11 rfl) (aN (pK 10 rfl) aL aL) aL))) h
def adb:aC:=[.m 60666 [cz,PY] (OD) (.o 44523 [cz,PX] (.ap [v2,j 0]))
 (.l)]
def ade:aC:=[.m 62507 [v109,sB,mN,j 0] (dn) (.o 44889 [v109,An,mN,j 1] (v10))
 (.l)]
def adf:aC:=[.o 45200 [JP] (j 0)]
def adg:aC:=[.o 45043 [JP,FZ,v87,j 0,j 4] (.cJ false 4 4 [j 1,.ab,j 2,.ab,j 0,.ab,j 1,.ab,j 0,.ab,j 1,.ab,j 0,.ab,j 1,.ab])]
def k14:List (Nat×aC):=[(19,adb),(67,ade),(76,adf),(82,adg)]
def aq6:iZ prog aU T7 k14=true:=by decide+kernel
def t8:Tr aC:=(.n 76 adf (.n 67 ade (.n 19 adb .l .l) .l) (.n 82 adg .l .l))
def T8:List (Tr aC):=t8::T7
def atU {O:bA} (hO:eP O) (hp:O.prog=prog) (hl:O.aU=aU):eT O T8:=by
 have h:=atT hO hp hl;have P1:=kK hO hp hl h aq6;exact eT.cons (aN (P1 2 rfl) (aN (P1 1 rfl) (aN (P1 0 rfl) aL aL) aL) (aN (P1 3 rfl) aL aL)) h
def adh:aC:=[.m 62507 [v109,sB,mN,j 0] (.ap [v2,j 0]) (.o 44889 [v109,An,mN,j 1] (OD))
 (.l)]
def adi:aC:=[.o 27996 [JP,.aE true 1 [v0,v0,v0],Um,j 0] (.ap [.cJ false 1 1 [FY],j 0])]
def k15:List (Nat×aC):=[(24,adh),(26,adi)]
def aq7:iZ prog aU T8 k15=true:=by decide+kernel
def t9:Tr aC:=(.n 26 adi (.n 24 adh .l .l) .l)
def T9:List (Tr aC):=t9::T8
def atV {O:bA} (hO:eP O) (hp:O.prog=prog) (hl:O.aU=aU):eT O T9:=by
 have h:=atU hO hp hl;have c15:=kK hO hp hl h aq7;exact eT.cons (aN (c15 1 rfl) (aN (c15 0 rfl) aL aL) aL) h
def aeT:aC:=[.o 7 [] (.bool true)]
def k16:List (Nat×aC):=[(1,aeT)]
def aq8:iZ prog aU T9 k16=true:=by decide+kernel
def t10:Tr aC:=(.n 1 aeT .l .l)
def T10:List (Tr aC):=t10::T9
def aq9 {O:bA} (hO:eP O) (hp:O.prog=prog) (hl:O.aU=aU):eT O T10:=by
 have h:=atV hO hp hl;have c16:=kK hO hp hl h aq8;exact eT.cons (aN (c16 0 rfl) aL aL) h
def holds {O:bA} (hO:eP O) (hp:O.prog=prog) (hl:O.aU=aU):eX O 1 [] (.bool true):=Tr.Cp (aq9 hO hp hl t10 (.head _)) (i:=1) rfl _ _ ⟨_,.head _,.inl rfl⟩
end VK1
end VE
