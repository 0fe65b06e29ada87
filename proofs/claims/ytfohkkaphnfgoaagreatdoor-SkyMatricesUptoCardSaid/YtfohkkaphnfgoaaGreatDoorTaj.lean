import Derived.Test.YtfohkkaphnfgoaaGreatDoorTai
set_option linter.all false
set_option maxRecDepth 100000
namespace VE
namespace VK1
def T0:List (Tr aF):=[]
def ats {O:bt} (_hO:eM O) (_hp:O.prog=prog) (_hl:O.aW=aW):eP O T0:=eP.nil
abbrev j (n:Int):AV:= .int .i64 n
abbrev u (n:Nat):AV:= .int .u64 n
def w (l:List Nat):AV:= .aJ true l.length (l.map u)
def v0:AV:= .str [48]
def v1:AV:= .str [51,47,50]
def v2:AV:= .str [49,47,50]
def v3:AV:= .str [49,47,50,52]
def v4:AV:= .str [49]
def v5:AV:= .str [49,47,49,48]
def v6:AV:= .aJ true 2 [j 0,j 1]
def v7:AV:= .aJ true 2 [j 2,j 3]
def v8:AV:= .aJ true 3 [j 0,j 0,j 0]
def v9:AV:= .aJ true 4 [j 0,j 0,j 0,j 0]
def v10:AV:= .agg [j 3,.ab,j 2,.ab]
def v11:AV:= .agg [j 1,.ab,j 1,.ab]
def v12:AV:= .agg [j 0,.ab,j 1,.ab]
def dc:AV:= .agg [j 1,.ab,j 2,.ab]
def zh:AV:= .agg [j 1,.ab,j 24,.ab]
def Ql:AV:= .agg [j 5,.ab,j 4,.ab]
def WR:AV:= .aJ true 2 [j 3,j 2]
def Qm:AV:= .aJ true 2 [j 1,j 2]
def WS:AV:= .aJ true 2 [j 1,j 0]
def GR:AV:= .aJ true 2 [j 2,j 4]
def v20:AV:= .str [49,48]
def v21:AV:= .str [53]
def v22:AV:= .agg [j 1,.ab]
def dM:AV:= .agg [j 3,.ab]
def v24:AV:= .agg [j 6,.ab]
def v25:AV:= .agg [j 2,.ab]
def bS:AV:= .agg [j 0,.ab]
def v27:AV:= .agg [j 4,.ab]
def v28:AV:= .agg [j 5,.ab]
def GS:AV:= .agg [j 14,.ab]
def v30:AV:= .agg [j 10,.ab]
def v31:AV:= .agg [j 8,.ab]
def GU:AV:= .agg [j (-1),.ab]
def v33:AV:= .agg [j 12,.ab]
def GV:AV:= .agg [j 9,.ab]
def v35:AV:= .agg [j 16,.ab]
def v36:AV:= .agg [j 96,.ab]
def v37:AV:= .agg [j 100,.ab]
def v38:AV:= .agg [j 24,.ab]
def WT:AV:= .agg [j (-2),.ab]
def v40:AV:= .agg [j 3,.ab,j 1,.ab]
def WU:AV:= .aJ true 5 [j 1,j 1,j 1,j 1,j 1]
def v42:AV:= .agg [j 2,.ab,j 1,.ab]
def nQ:AV:= .agg [j 5,.ab,j 1,.ab]
def v44:AV:= .agg [j 10,.ab,j 1,.ab]
def WV:AV:= .agg [j 8,.ab,j 1,.ab]
def v46:AV:= .agg [j 12,.ab,j 1,.ab]
def v47:AV:= .agg [j (-1),.ab,j 1,.ab]
def v48:AV:= .agg [j 0,j 0,j 1,.ab,j 2,.ab,j 1,.ab,j 2,.ab]
def v49:AV:= .au [j 1,j 0]
def Ly:AV:= .au [j 0,j 0]
def v51:AV:= .agg [j 0,j 0,j 0,.ab,j 1,.ab,j 0,.ab,j 1,.ab]
def El:AV:= .agg [j 0,j 0,j 0,.ab,j 1,.ab,j 1,.ab,j 2,.ab]
def v53:AV:= .agg [j 1,j 0,j 1,.ab,j 2,.ab,j 0,.ab,j 1,.ab]
def Lz:AV:= .au [j 1,j 1]
def LA:AV:= .au [j 0,j 1]
def Em:AV:= .agg [j 1,j 1,j 0,.ab,j 1,.ab,j 0,.ab,j 1,.ab]
def zi:AV:= .agg [j 1,.ab,j 2,.ab,j 1,.ab,j 1,.ab]
def rD:AV:= .agg [j 0,.ab,j 1,.ab,j 1,.ab,j 2,.ab]
def v59:AV:= .agg [j 1,.ab,j 24,.ab,j 0,.ab,j 1,.ab]
def Qn:AV:= .aJ false 2 [j 1,.ab,j 1,.ab,j 1,.ab,j 1,.ab]
def LB:AV:= .aJ false 4 [j 1,.ab,j 2,.ab,j 0,.ab,j 1,.ab,j 0,.ab,j 1,.ab,j 0,.ab,j 1,.ab]
def Qo:AV:= .aJ true 3 [j 0,j 1,j 0]
def v63:AV:= .agg [j 0,.ab,j 1,.ab,j 0,.ab,j 1,.ab]
def WW:AV:= .agg [j 1,.ab,j 3,.ab]
def v65:AV:= .agg [j 1,.ab,j 4,.ab]
def GW:AV:= .agg [j 3,.ab,j 4,.ab]
def GX:AV:= .agg [j 7,.ab,j 2,.ab]
def v68:AV:= .agg [j 9,.ab,j 4,.ab]
def v69:AV:= .agg [j 1,.ab,j 8,.ab]
def v70:AV:= .agg [j 1,.ab,j 10,.ab]
def WX:AV:= .agg [j 1,.ab,j 12,.ab]
def v72:AV:= .aJ false 1 [j 1,.ab,j 1,.ab]
def v73:AV:= .aJ true 1 [j 1,.ab,j 1,.ab]
def Qp:AV:= .aJ true 2 [j 1,.ab,j 1,.ab,j 1,.ab,j 1,.ab]
def v75:AV:= .agg [j 6,.ab,j 1,.ab]
def v76:AV:= .agg [j 4,.ab,j 1,.ab]
def v77:AV:= .agg [j 14,.ab,j 1,.ab]
def Qq:AV:= .agg [j 1,.ab,j 1,.ab,j 0,.ab,j 1,.ab]
def v79:AV:= .agg [j 1,.ab,j 1,.ab,j 0,.ab,j 1,.ab,j 0,.ab,j 1,.ab,j 0,.ab,j 1,.ab]
def v80:AV:= .agg [j 3,.ab,j 2,.ab,j 0,.ab,j 1,.ab]
def En:AV:= .agg [j 1,.ab,j 2,.ab,j 0,.ab,j 1,.ab]
def v82:AV:= .agg [j 1,.ab,j 2,.ab,j 1,.ab,j 2,.ab]
def v83:AV:= .agg [j 0,.ab,j 1,.ab,j 1,.ab,j 1,.ab]
def v84:AV:= .agg [j 1,.ab,j 10,.ab,j 0,.ab,j 1,.ab]
def v85:AV:= .aJ false 1 [j 3,.ab,j 1,.ab]
def WY:AV:= .agg [j 1,.ab,j 1,.ab,j 1,.ab,j 1,.ab]
def v87:AV:= .agg [v0,v0]
def Qr:AV:= .agg [v1,v0]
def Qs:AV:= .agg [v2,v2]
def mW:AV:= .agg [v0,v4]
def v91:AV:= .agg [v4,v0]
def cg:AV:= .aJ true 2 [v6,v7]
def v93:AV:= .aJ true 2 [v4,v4]
def GY:AV:= .aJ true 4 [v2,v0,v0,v0]
def GZ:AV:= .agg [v0,v0,v0]
def zj:AV:= .agg [v0,v0,v20]
def AF:AV:= .agg [v5,v0,v0]
def Qt:AV:= .au [bS,bS]
def G0:AV:= .au [v22,bS]
def Pn:AV:= .au [v25,bS]
def DR:AV:= .au [bS,v22]
def Ky:AV:= .aJ true 2 [GR,GR]
def Po:AV:= .aJ true 2 [WS,WR]
def UW:AV:= .aJ true 2 [Qm,Qm]
def v105:AV:= .aJ true 3 [Qo,Qo,v8]
def Pp:AV:= .au [v1,j 0]
def v107:AV:= .aJ true 1 [.str [51]]
def UX:AV:= .aJ true 1 [v0,v0]
def v109:AV:= .agg [cg,v21,v4,v2,v0,v0,v2,v0]
def Kz:AV:= .aJ true 1 [cg,v21,v4,v2,v0,v0,v2,v0]
def Gn:AV:= .aJ true 1 [v93]
def adT:aF:=[.m 40535 [v0,v0] (v87) (.m 17893 [v1,v0] (Qr) (.m 17891 [v2,v0] (.agg [v2,v0]) (.o 9861 [v3,v0] (.agg [v3,v0]))
 (.l))
 (.m 24930 [v2,v2] (Qs) (.o 18154 [v2,v4] (.agg [v2,v4]))
 (.l)))
 (.m 47574 [v0,v2] (.agg [v0,v2]) (.m 40798 [v0,v4] (mW) (.o 40536 [v4,v0] (v91))
 (.l))
 (.o 56238 [v5,v0] (.agg [v5,v0])))]
def adU:aF:=[.o 7 [] (cg)]
def adV:aF:=[.m 51556 [v93,v93] (.bool true) (.o 30452 [GY,GY] (.bool true))
 (.l)]
def adW:aF:=[.m 28694 [.bool false,j 12] (j 0) (.m 26327 [.bool false,j 3] (j 0) (.o 26064 [.bool false,j 2] (j 0))
 (.o 26853 [.bool false,j 5] (j 0)))
 (.m 33691 [.bool false,j 31] (j 0) (.o 28957 [.bool false,j 13] (j 0))
 (.l))]
def adX:aF:=[.m 34670 [v8] (j 0) (.m 9480 [.aJ true 6 [j 0,j 0,j 0,j 0,j 0,j 0]] (j 0) (.o 3683 [.aJ false 1 [j 0]] (j 0))
 (.o 27379 [.aJ true 2 [j 0,j 0]] (j 0)))
 (.m 51832 [v9] (j 0) (.o 44227 [.aJ true 5 [j 0,j 0,j 0,j 0,j 0]] (j 0))
 (.l)),
 .o 44227 [.aJ false 5 [j 0,j 0,j 0,j 0,j 0]] (j 0)]
def adY:aF:=[.m 25801 [j 2,j 1] (j 3) (.m 25800 [j 1,j 1] (j 2) (.o 25799 [j 0,j 1] (j 1))
 (.l))
 (.m 25803 [j 4,j 1] (j 5) (.o 25802 [j 3,j 1] (j 4))
 (.l))]
def adZ:aF:=[.m 51329 [j 0,j 1,.aQ [cg]] (j 2) (.m 51067 [j 1,j 0,.aQ [cg]] (j 1) (.o 51066 [j 0,j 0,.aQ [cg]] (j 0))
 (.l))
 (.o 51330 [j 1,j 1,.aQ [cg]] (j 3))]
def ad0:aF:=[.m 9008 [v10] (v1) (.m 5358 [v11] (v4) (.o 5357 [v12] (v0))
 (.o 9006 [dc] (v2)))
 (.m 23741 [zh] (v3) (.o 16306 [Ql] (.str [53,47,52]))
 (.l))]
def ad1:aF:=[.m 51329 [j 0,j 1,.aQ [cg]] (j 2) (.m 51067 [j 1,j 0,.aQ [cg]] (j 1) (.o 51066 [j 0,j 0,.aQ [cg]] (j 0))
 (.l))
 (.o 51330 [j 1,j 1,.aQ [cg]] (j 3))]
def ad2:aF:=[.m 51329 [j 0,j 1,.aQ [cg]] (j 4) (.m 51067 [j 1,j 0,.aQ [cg]] (j 1) (.o 51066 [j 0,j 0,.aQ [cg]] (j 0))
 (.l))
 (.o 51330 [j 1,j 1,.aQ [cg]] (j 9))]
def ad3:aF:=[.m 27519 [WR,WR] (.bool true) (.m 26991 [Qm,Qm] (.bool true) (.o 19169 [WS,WS] (.bool true))
 (.l))
 (.o 35077 [GR,GR] (.bool true))]
def ad4:aF:=[.m 48449 [GZ] (.bool true) (.o 46691 [zj] (.bool false))
 (.o 64152 [AF] (.bool true))]
def ad5:aF:=[.o 45199 [v109] (j 4)]
def ad6:aF:=[.o 26588 [j 0,j 4] (j 4)]
def ad7:aF:=[.m 26852 [j 1,.aQ [j 1000]] (.bool false) (.o 26851 [j 0,.aQ [j 1000]] (.bool false))
 (.l)]
def k0:List (Nat×aF):=[(14,adT),(15,adU),(29,adV),(31,adW),(33,adX),(38,adY),(44,adZ),(46,ad0),(47,ad1),(48,ad2),(59,ad3),(68,ad4),(80,ad5),(81,ad6),(94,ad7)]
def att:jd prog aW T0 k0=true:=by decide+kernel
def ad8:aF:=[.m 26853 [j 2,.aQ [j 1000]] (.bool false) (.m 26852 [j 1,.aQ [j 100]] (.bool false) (.o 26851 [j 0,.aQ [j 100]] (.bool false))
 (.l))
 (.m 26855 [j 4,.aQ [j 1000]] (.bool false) (.o 26854 [j 3,.aQ [j 1000]] (.bool false))
 (.l))]
def ad9:aF:=[.m 1844 [j 3] (.fn (.f 133) [] [.aQ [j 3]]) (.o 1843 [j 2] (.fn (.f 133) [] [.aQ [j 2]]))
 (.l)]
def ab8:aF:=[.m 38722 [v22,dM] (dM) (.m 38201 [v24,v22] (v24) (.m 38196 [v22,v22] (v22) (.m 37934 [v25,bS] (bS) (.m 37933 [v22,bS] (bS) (.o 37932 [bS,bS] (bS))
 (.l))
 (.o 38195 [bS,v22] (bS)))
 (.m 38199 [v27,v22] (v27) (.m 38198 [dM,v22] (dM) (.o 38197 [v25,v22] (v25))
 (.l))
 (.o 38200 [v28,v22] (v28))))
 (.m 38460 [v25,v25] (v27) (.m 38458 [bS,v25] (bS) (.m 38209 [GS,v22] (GS) (.o 38205 [v30,v22] (v30))
 (.l))
 (.o 38459 [v22,v25] (v25)))
 (.m 38474 [.agg [j (-9),.ab],v25] (.agg [j (-18),.ab]) (.o 38462 [v27,v25] (v31))
 (.o 38721 [bS,dM] (bS)))))
 (.m 40036 [GU,v31] (.agg [j (-8),.ab]) (.m 38987 [dM,v27] (v33) (.m 38985 [v22,v27] (v27) (.m 38984 [bS,v27] (bS) (.o 38724 [dM,dM] (GV))
 (.l))
 (.o 38986 [v25,v27] (v31)))
 (.m 39247 [bS,v28] (bS) (.m 38991 [.agg [j 7,.ab],v27] (.agg [j 28,.ab]) (.o 38988 [v27,v27] (v35))
 (.l))
 (.o 39248 [v22,v28] (v28))))
 (.m 41096 [v31,v33] (v36) (.m 40572 [v30,v30] (v37) (.m 40563 [v22,v30] (v30) (.o 40562 [bS,v30] (bS))
 (.l))
 (.o 41089 [v22,v33] (v33)))
 (.m 64232 [bS,v37] (bS) (.o 44245 [v22,v38] (v38))
 (.o 64233 [v22,v37] (v37))))),
 .m 38458 [GU,v25] (WT) (.o 38195 [GU,v22] (GU))
 (.l)]
def ab9:aF:=[.m 38196 [v22,v22] (v11) (.o 38195 [bS,v22] (v12))
 (.o 38198 [dM,v22] (v40))]
def aca:aF:=[.m 40564 [v25,v30] (j (-1)) (.o 38196 [v22,v22] (j 0))
 (.o 40567 [v28,v30] (j (-1)))]
def acb:aF:=[.m 38458 [bS,v25] (v25) (.m 37934 [v25,GU] (v22) (.m 37933 [v22,bS] (v22) (.o 37932 [bS,bS] (bS))
 (.l))
 (.o 38195 [bS,v22] (v22)))
 (.m 41100 [v33,v33] (v38) (.o 38986 [v25,v27] (v24))
 (.o 46902 [.agg [j 28,.ab],.agg [j (-18),.ab]] (v30)))]
def k1:List (Nat×aF):=[(94,ad8),(96,ad9),(100,ab8),(101,ab9),(118,aca),(119,acb)]
def atu:jd prog aW T0 k1=true:=by decide+kernel
def acd:aF:=[.m 38468 [v30,WT] (v31) (.m 38197 [v25,v22] (dM) (.m 37935 [dM,bS] (dM) (.o 37933 [v22,GU] (bS))
 (.o 38196 [v22,v22] (v25)))
 (.m 38461 [dM,WT] (v22) (.o 38460 [v25,v25] (v27))
 (.l)))
 (.m 39247 [bS,v28] (v28) (.m 38984 [bS,v27] (v27) (.o 38721 [bS,dM] (dM))
 (.l))
 (.m 41626 [v33,.agg [j (-8),.ab]] (v27) (.o 40562 [bS,v30] (v30))
 (.l))),
 .o 38468 [v30,v25] (v33)]
def ace:aF:=[.m 26590 [.bool false,j 4] (j 0) (.m 26064 [.bool false,j 2] (j 0) (.o 25801 [.bool false,j 1] (j 0))
 (.l))
 (.m 28694 [.bool false,j 12] (j 0) (.o 26853 [.bool false,j 5] (j 0))
 (.l))]
def acf:aF:=[.m 51832 [v9] (j 0) (.o 27379 [.aJ true 2 [j 0,j 0]] (j 0))
 (.l)]
def acg:aF:=[.m 2149 [.str [51]] (.bool true) (.m 2147 [v4] (.bool true) (.o 2146 [v0] (.bool true))
 (.o 2148 [.str [50]] (.bool true)))
 (.m 2151 [v21] (.bool true) (.o 2150 [.str [52]] (.bool true))
 (.o 14754 [v20] (.bool true)))]
def ach:aF:=[.m 26063 [j 1,j 2] (j 1) (.o 26062 [j 0,j 2] (j 0))
 (.o 26064 [j 2,j 2] (j 0)),
 .o 26062 [j (-1),j 2] (j 1)]
def aci:aF:=[.m 28694 [v25] (.bool false) (.m 28693 [v22] (.bool false) (.o 28692 [bS] (.bool false))
 (.l))
 (.m 28716 [v38] (.bool false) (.o 28695 [dM] (.bool false))
 (.l))]
def acj:aF:=[.m 38468 [v30,v25] (.au [v28,bS]) (.m 38458 [bS,v25] (Qt) (.m 38198 [dM,v22] (.au [dM,bS]) (.m 38196 [v22,v22] (G0) (.o 38195 [bS,v22] (Qt))
 (.o 38197 [v25,v22] (Pn)))
 (.m 38204 [GV,v22] (.au [GV,bS]) (.o 38199 [v27,v22] (.au [v27,bS]))
 (.l)))
 (.m 38462 [v27,v25] (Pn) (.m 38460 [v25,v25] (G0) (.o 38459 [v22,v25] (DR))
 (.l))
 (.m 38466 [v31,v25] (.au [v27,bS]) (.o 38464 [v24,v25] (.au [dM,bS]))
 (.l))))
 (.m 38987 [dM,v27] (.au [bS,dM]) (.m 38984 [bS,v27] (Qt) (.m 38725 [v27,dM] (.au [v22,v22]) (.o 38472 [GS,v25] (.au [.agg [j 7,.ab],bS]))
 (.l))
 (.m 38986 [v25,v27] (.au [bS,v25]) (.o 38985 [v22,v27] (DR))
 (.l)))
 (.m 38993 [GV,v27] (.au [v25,v22]) (.m 38990 [v24,v27] (.au [v22,v25]) (.o 38988 [v27,v27] (G0))
 (.l))
 (.m 40046 [v30,v31] (.au [v22,v25]) (.o 38998 [GS,v27] (.au [dM,v25]))
 (.l))))]
def k2:List (Nat×aF):=[(119,acd),(124,ace),(125,acf),(129,acg),(134,ach),(151,aci),(164,acj)]
def atv:jd prog aW T0 k2=true:=by decide+kernel
def ack:aF:=[.m 40037 [v22,v31] (DR) (.m 38722 [v22,dM] (DR) (.m 38207 [v33,v22] (.au [v33,bS]) (.m 38205 [v30,v22] (.au [v30,bS]) (.o 38203 [v31,v22] (.au [v31,bS]))
 (.l))
 (.m 38461 [dM,v25] (.au [v22,v22]) (.o 38219 [v38,v22] (.au [v38,bS]))
 (.l)))
 (.m 39252 [v28,v28] (G0) (.m 39080 [v36,v27] (.au [v38,bS]) (.o 38724 [dM,dM] (G0))
 (.l))
 (.m 39518 [v31,v24] (.au [v22,v25]) (.o 39257 [v30,v28] (Pn))
 (.l))))
 (.m 41089 [v22,v33] (DR) (.m 40060 [v38,v31] (.au [dM,bS]) (.m 40052 [v35,v31] (Pn) (.o 40042 [v24,v31] (.au [bS,v24]))
 (.l))
 (.m 40567 [v28,v30] (.au [bS,v28]) (.o 40563 [v22,v30] (DR))
 (.l)))
 (.m 44245 [v22,v38] (DR) (.m 44244 [bS,v38] (Qt) (.o 42164 [v38,v35] (.au [v22,v31]))
 (.l))
 (.m 63184 [v27,v36] (.au [bS,v27]) (.o 44268 [v38,v38] (G0))
 (.l))))]
def k3:List (Nat×aF):=[(164,ack)]
def atw:jd prog aW T0 k3=true:=by decide+kernel
def t1:Tr aF:=(.n 81 ad6 (.n 44 adZ (.n 31 adW (.n 15 adU (.n 14 adT .l .l) (.n 29 adV .l .l)) (.n 38 adY (.n 33 adX .l .l) .l)) (.n 59 ad3 (.n 47 ad1 (.n 46 ad0 .l .l) (.n 48 ad2 .l .l)) (.n 80 ad5 (.n 68 ad4 .l .l) .l))) (.n 124 ace (.n 101 ab9 (.n 96 ad9 (.n 94 (ad7++ad8) .l .l) (.n 100 ab8 .l .l)) (.n 119 (acb++acd) (.n 118 aca .l .l) .l)) (.n 134 ach (.n 129 acg (.n 125 acf .l .l) .l) (.n 164 (acj++ack) (.n 151 aci .l .l) .l))))
def T1:List (Tr aF):=t1::T0
def atx {O:bt} (hO:eM O) (hp:O.prog=prog) (hl:O.aW=aW):eP O T1:=by
 have h:=ats hO hp hl;have c0:=kO hO hp hl h att;have c1:=kO hO hp hl h atu;have c2:=kO hO hp hl h atv;have c3:=kO hO hp hl h atw;exact eP.cons (aN (c0 13 rfl) (aN (c0 6 rfl) (aN (c0 3 rfl) (aN (c0 1 rfl) (aN (c0 0 rfl) aL aL) (aN (c0 2 rfl) aL aL)) (aN (c0 5 rfl) (aN (c0 4 rfl) aL aL) aL)) (aN (c0 10 rfl) (aN (c0 8 rfl) (aN (c0 7 rfl) aL aL) (aN (c0 9 rfl) aL aL)) (aN (c0 12 rfl) (aN (c0 11 rfl) aL aL) aL))) (aN (c2 1 rfl) (aN (c1 3 rfl) (aN (c1 1 rfl) (aN (.cX (c0 14 rfl) (c1 0 rfl)) aL aL) (aN (c1 2 rfl) aL aL)) (aN (.cX (c1 5 rfl) (c2 0 rfl)) (aN (c1 4 rfl) aL aL) aL)) (aN (c2 4 rfl) (aN (c2 3 rfl) (aN (c2 2 rfl) aL aL) aL) (aN (.cX (c2 6 rfl) (c3 0 rfl)) (aN (c2 5 rfl) aL aL) aL)))) h
def aea:aF:=[.m 47931 [Ky,Ky] (.bool true) (.o 9899 [Po,Po] (.bool true))
 (.l),
 .o 9899 [UW,UW] (.bool true)]
def aeb:aF:=[.o 7 [] (v109)]
def aec:aF:=[.o 58093 [.aJ false 1 [GY],.aJ true 1 [GY]] (.bool true)]
def aed:aF:=[.m 43068 [j 1,j 1,j 2147483646] (j 0) (.m 25938 [j 2,j 1,j 16] (j 0) (.o 11651 [j 1,j 0,j 1000] (j 0))
 (.l))
 (.m 55041 [j 1,j (-999999999),j 999999999] (j 0) (.o 55040 [j 0,j (-999999999),j 999999999] (j 0))
 (.l))]
def aee:aF:=[.m 25649 [j 0,WU,.fn (.f 38) [] []] (j 5) (.o 12396 [j 0,.aJ false 1 [j 4],.fn (.f 81) [] []] (j 4))
 (.l)]
def aef:aF:=[.m 36730 [v11,v11] (v11) (.m 36468 [v42,v12] (v12) (.m 36467 [v11,v12] (v12) (.o 36466 [v12,v12] (v12))
 (.l))
 (.o 36729 [v12,v11] (v12)))
 (.m 37256 [v11,v40] (v40) (.m 37255 [v12,v40] (v12) (.o 36992 [v12,v42] (v12))
 (.l))
 (.o 37781 [v12,nQ] (v12)))]
def aeg:aF:=[.m 31055 [AF,nQ] (.bool true) (.o 15352 [GZ,nQ] (.bool true))
 (.l)]
def aeh:aF:=[.m 39101 [nQ,v44] (j (-1)) (.o 39098 [v42,v44] (j (-1)))
 (.l)]
def aei:aF:=[.m 36730 [v11,v11] (v42) (.m 36469 [v40,v12] (v40) (.m 36467 [v11,v12] (v11) (.o 36466 [v12,v12] (v12))
 (.l))
 (.o 36729 [v12,v11] (v11)))
 (.m 37002 [v44,.agg [j (-2),.ab,j 1,.ab]] (WV) (.o 36731 [v42,v11] (v40))
 (.o 37255 [v12,v40] (v40))),
 .m 37002 [v44,v42] (v46) (.o 36467 [v11,v47] (v12))
 (.l)]
def aej:aF:=[.o 4689 [Kz,.fn (.f 80) [] []] (.bW false 1 1 [j 4])]
def aek:aF:=[.m 2150 [.str [52]] (j 0) (.m 2147 [v4] (j 0) (.o 2146 [v0] (j 0))
 (.o 2149 [.str [51]] (j 0)))
 (.m 14754 [v20] (j 0) (.o 2151 [v21] (j 0))
 (.l))]
def ael:aF:=[.m 5504 [cg,j 1,j 2] (j 1) (.m 2119 [cg,j 2,j 1] (j 2) (.m 1856 [cg,j 1,j 1] (j 3) (.o 1593 [cg,j (-1),j 1] (j 3))
 (.l))
 (.o 5241 [cg,j (-1),j 2] (j 1)))
 (.m 63729 [cg,j 1,j 0] (j 1) (.m 63466 [cg,j (-1),j 0] (j 1) (.o 5767 [cg,j 2,j 2] (j 0))
 (.l))
 (.o 63992 [cg,j 2,j 0] (j 0))),
 .m 63466 [cg,j 0,j 0] (j 0) (.m 5241 [cg,j 0,j 2] (j 0) (.o 1593 [cg,j 0,j 1] (j 2))
 (.l))
 (.m 63992 [cg,j 2,j (-1)] (j 2) (.o 63729 [cg,j 1,j (-1)] (j 3))
 (.l)),
 .o 63466 [cg,j (-1),j (-1)] (j 3),
 .o 63466 [cg,j 0,j (-1)] (j 2)]
def acm:aF:=[.m 62435 [v48,j 1,j 2] (v49) (.o 62172 [v48,j 0,j 2] (Ly))
 (.l)]
def k4:List (Nat×aF):=[(21,aea),(23,aeb),(28,aec),(34,aed),(37,aee),(49,aef),(63,aeg),(71,aeh),(74,aei),(79,aej),(86,aek),(97,ael),(105,acm)]
def aty:jd prog aW T1 k4=true:=by decide+kernel
def acn:aF:=[.m 60093 [v51,j 1,j 2] (v49) (.m 51383 [El,j 0,j 2] (Ly) (.m 5625 [v53,j 2,j 2] (Lz) (.m 5362 [v53,j 1,j 2] (Ly) (.o 5099 [v53,j 0,j 2] (v49))
 (.l))
 (.o 5888 [v53,j 3,j 2] (LA)))
 (.m 52172 [El,j 3,j 2] (Lz) (.m 51909 [El,j 2,j 2] (LA) (.o 51646 [El,j 1,j 2] (v49))
 (.l))
 (.o 59830 [v51,j 0,j 2] (Ly))))
 (.m 60620 [Em,j 2,j 2] (v49) (.m 60357 [Em,j 1,j 2] (LA) (.m 60356 [v51,j 2,j 2] (LA) (.o 60094 [Em,j 0,j 2] (Lz))
 (.l))
 (.o 60619 [v51,j 3,j 2] (Lz)))
 (.m 62698 [v48,j 2,j 2] (LA) (.o 60883 [Em,j 3,j 2] (Ly))
 (.o 62961 [v48,j 3,j 2] (Lz))))]
def aco:aF:=[.m 9006 [dc] (.bool false) (.m 5358 [v11] (.bool false) (.o 5357 [v12] (.bool false))
 (.l))
 (.m 23741 [zh] (.bool false) (.o 9008 [v10] (.bool false))
 (.l))]
def acp:aF:=[.m 44894 [zi] (.agg [v2,v4]) (.o 14255 [rD] (.agg [v0,v2]))
 (.o 52488 [v59] (.agg [v3,v0]))]
def acq:aF:=[.m 41248 [Qn] (.bW true 1 2 [v4,v4]) (.o 19556 [LB] (.bW true 1 4 [v2,v0,v0,v0]))
 (.l)]
def acr:aF:=[.m 38990 [v24,v27] (v25) (.m 38724 [dM,dM] (dM) (.m 38461 [dM,v25] (v22) (.m 38459 [v22,v25] (v22) (.o 38458 [bS,v25] (v25))
 (.o 38460 [v25,v25] (v25)))
 (.m 38722 [v22,dM] (v22) (.o 38462 [v27,v25] (v25))
 (.l)))
 (.m 38986 [v25,v27] (v25) (.m 38985 [v22,v27] (v22) (.o 38984 [bS,v27] (v27))
 (.l))
 (.m 38988 [v27,v27] (v27) (.o 38987 [dM,v27] (v22))
 (.l))))
 (.m 40567 [v28,v30] (v28) (.m 40042 [v24,v31] (v25) (.m 38998 [GS,v27] (v25) (.o 38993 [GV,v27] (v22))
 (.o 40037 [v22,v31] (v22)))
 (.m 40563 [v22,v30] (v22) (.o 40046 [v30,v31] (v25))
 (.l)))
 (.m 44244 [bS,v38] (v38) (.m 42164 [v38,v35] (v31) (.o 41089 [v22,v33] (v22))
 (.l))
 (.m 63184 [v27,v36] (v27) (.o 44245 [v22,v38] (v22))
 (.l))))]
def acs:aF:=[.m 53443 [GR,.fn (.f 94) [] [.aQ [j 1000]]] (j (-1)) (.m 53180 [v7,.fn (.f 94) [] [.aQ [j 1000]]] (j (-1)) (.o 52652 [v6,.fn (.f 94) [] [.aQ [j 1000]]] (j (-1)))
 (.l))
 (.m 59943 [Qo,.fn (.f 94) [] [.aQ [j 100]]] (j (-1)) (.o 59680 [v8,.fn (.f 94) [] [.aQ [j 100]]] (j (-1)))
 (.l))]
def acu:aF:=[.m 9006 [dc] (bS) (.o 5357 [v12] (bS))
 (.l)]
def k5:List (Nat×aF):=[(105,acn),(107,aco),(114,acp),(123,acq),(130,acr),(132,acs),(149,acu)]
def atz:jd prog aW T1 k5=true:=by decide+kernel
def acv:aF:=[.m 9008 [v10] (v22) (.o 5358 [v11] (v22))
 (.l)]
def acw:aF:=[.m 52923 [v30,j 2] (v37) (.o 52660 [v30,j 1] (v30))
 (.l)]
def k6:List (Nat×aF):=[(149,acv),(155,acw)]
def atA:jd prog aW T1 k6=true:=by decide+kernel
def t2:Tr aF:=(.n 86 aek (.n 49 aef (.n 28 aec (.n 23 aeb (.n 21 aea .l .l) .l) (.n 37 aee (.n 34 aed .l .l) .l)) (.n 74 aei (.n 71 aeh (.n 63 aeg .l .l) .l) (.n 79 aej .l .l))) (.n 123 acq (.n 107 aco (.n 105 (acm++acn) (.n 97 ael .l .l) .l) (.n 114 acp .l .l)) (.n 149 (acu++acv) (.n 132 acs (.n 130 acr .l .l) .l) (.n 155 acw .l .l))))
def T2:List (Tr aF):=t2::T1
def atB {O:bt} (hO:eM O) (hp:O.prog=prog) (hl:O.aW=aW):eP O T2:=by
 have h:=atx hO hp hl;have c4:=kO hO hp hl h aty;have c5:=kO hO hp hl h atz;have c6:=kO hO hp hl h atA;exact eP.cons (aN (c4 10 rfl) (aN (c4 5 rfl) (aN (c4 2 rfl) (aN (c4 1 rfl) (aN (c4 0 rfl) aL aL) aL) (aN (c4 4 rfl) (aN (c4 3 rfl) aL aL) aL)) (aN (c4 8 rfl) (aN (c4 7 rfl) (aN (c4 6 rfl) aL aL) aL) (aN (c4 9 rfl) aL aL))) (aN (c5 3 rfl) (aN (c5 1 rfl) (aN (.cX (c4 12 rfl) (c5 0 rfl)) (aN (c4 11 rfl) aL aL) aL) (aN (c5 2 rfl) aL aL)) (aN (.cX (c5 6 rfl) (c6 0 rfl)) (aN (c5 5 rfl) (aN (c5 4 rfl) aL aL) aL) (aN (c6 1 rfl) aL aL)))) h
def aem:aF:=[.o 1842 [j 1] (j 0)]
def aen:aF:=[.m 45155 [j 0,j 1,.aQ [v105],.aQ [cg],.aQ [j 1]] (j 2) (.m 44893 [j 1,j 0,.aQ [v105],.aQ [cg],.aQ [j 1]] (j 4) (.o 44892 [j 0,j 0,.aQ [v105],.aQ [cg],.aQ [j 1]] (j 2))
 (.l))
 (.o 45156 [j 1,j 1,.aQ [v105],.aQ [cg],.aQ [j 1]] (j 4))]
def aeo:aF:=[.m 36730 [v11,v11] (v12) (.m 36467 [v11,v12] (v11) (.o 36466 [v12,v12] (v12))
 (.l))
 (.o 37002 [v44,v42] (WV))]
def aep:aF:=[.m 1842 [j 1] (j 0) (.o 1841 [j 0] (j 0))
 (.l)]
def aeq:aF:=[.m 45155 [j 0,j 1,.aQ [cg],.aQ [j 1],.aQ [j 0]] (j 1) (.m 44893 [j 1,j 0,.aQ [cg],.aQ [j 1],.aQ [j 0]] (j 1) (.o 44892 [j 0,j 0,.aQ [cg],.aQ [j 1],.aQ [j 0]] (j 1))
 (.l))
 (.o 45156 [j 1,j 1,.aQ [cg],.aQ [j 1],.aQ [j 0]] (j 1))]
def aer:aF:=[.m 42377 [v91] (j 0) (.o 42376 [v87] (j 0))
 (.o 42639 [mW] (j 0))]
def aes:aF:=[.m 9008 [v10] (Pp) (.o 9006 [dc] (.au [v2,j 0]))
 (.l)]
def aet:aF:=[.m 45155 [j 0,j 1,.aQ [cg],.aQ [j 1],.aQ [j 0]] (j 3) (.m 44893 [j 1,j 0,.aQ [cg],.aQ [j 1],.aQ [j 0]] (j 0) (.o 44892 [j 0,j 0,.aQ [cg],.aQ [j 1],.aQ [j 0]] (j 1))
 (.l))
 (.o 45156 [j 1,j 1,.aQ [cg],.aQ [j 1],.aQ [j 0]] (j 2))]
def aeu:aF:=[.m 65476 [v63,v11] (v63) (.o 1007 [v63,nQ] (v63))
 (.l)]
def aev:aF:=[.o 29001 [v107,.fn (.f 86) [] []] (.bW false 1 1 [j 0])]
def aew:aF:=[.m 53443 [GR,.fn (.f 94) [] [.aQ [j 1000]]] (.bool false) (.m 53180 [v7,.fn (.f 94) [] [.aQ [j 1000]]] (.bool false) (.o 52652 [v6,.fn (.f 94) [] [.aQ [j 1000]]] (.bool false))
 (.l))
 (.m 59943 [Qo,.fn (.f 94) [] [.aQ [j 100]]] (.bool false) (.o 59680 [v8,.fn (.f 94) [] [.aQ [j 100]]] (.bool false))
 (.l))]
def acx:aF:=[.m 38990 [v24,v27] (v10) (.m 38724 [dM,dM] (v11) (.m 38461 [dM,v25] (v10) (.m 38459 [v22,v25] (dc) (.o 38458 [bS,v25] (v12))
 (.o 38460 [v25,v25] (v11)))
 (.m 38722 [v22,dM] (WW) (.o 38462 [v27,v25] (v42))
 (.l)))
 (.m 38986 [v25,v27] (dc) (.m 38985 [v22,v27] (v65) (.o 38984 [bS,v27] (v12))
 (.l))
 (.m 38988 [v27,v27] (v11) (.o 38987 [dM,v27] (GW))
 (.l))))
 (.m 40567 [v28,v30] (dc) (.m 40042 [v24,v31] (GW) (.m 38998 [GS,v27] (GX) (.o 38993 [GV,v27] (v68))
 (.o 40037 [v22,v31] (v69)))
 (.m 40563 [v22,v30] (v70) (.o 40046 [v30,v31] (Ql))
 (.l)))
 (.m 44244 [bS,v38] (v12) (.m 42164 [v38,v35] (v10) (.o 41089 [v22,v33] (WX))
 (.l))
 (.m 63184 [v27,v36] (zh) (.o 44245 [v22,v38] (zh))
 (.l))))]
def acy:aF:=[.m 47498 [v12,.aJ false 4 [j 0,.ab,j 1,.ab,j 0,.ab,j 1,.ab,j 1,.ab,j 1,.ab,j 0,.ab,j 1,.ab],.fn (.f 74) [] []] (v11) (.o 20032 [v12,.aJ false 4 [j 3,.ab,j 1,.ab,j 0,.ab,j 1,.ab,j 0,.ab,j 1,.ab,j 0,.ab,j 1,.ab],.fn (.f 74) [] []] (v40))
 (.l)]
def acz:aF:=[.o 2147 [v4] (v22)]
def k7:List (Nat×aF):=[(36,aem),(41,aen),(50,aeo),(51,aep),(52,aeq),(53,aer),(57,aes),(58,aet),(75,aeu),(85,aev),(95,aew),(101,acx),(106,acy),(110,acz)]
def atD:jd prog aW T2 k7=true:=by decide+kernel
def acA:aF:=[.m 2150 [.str [52]] (v27) (.m 2148 [.str [50]] (v25) (.o 2146 [v0] (bS))
 (.o 2149 [.str [51]] (dM)))
 (.m 14754 [v20] (v30) (.o 2151 [v21] (v28))
 (.l))]
def acB:aF:=[.o 25238 [v63,v63] (v63)]
def acC:aF:=[.m 44894 [zi] (.bool false) (.o 14255 [rD] (.bool false))
 (.o 52488 [v59] (.bool false))]
def acD:aF:=[.m 36994 [v72,v73] (v11) (.o 11145 [Qp,Qp] (v42))
 (.l)]
def acE:aF:=[.m 44566 [LB,.fn (.f 107) [] []] (j (-1)) (.o 737 [Qn,.fn (.f 107) [] []] (j (-1)))
 (.l)]
def acF:aF:=[.o 42642 [v93] (j 0)]
def k8:List (Nat×aF):=[(110,acA),(112,acB),(113,acC),(131,acD),(160,acE),(161,acF)]
def atE:jd prog aW T2 k8=true:=by decide+kernel
def t3:Tr aF:=(.n 85 aev (.n 52 aeq (.n 50 aeo (.n 41 aen (.n 36 aem .l .l) .l) (.n 51 aep .l .l)) (.n 58 aet (.n 57 aes (.n 53 aer .l .l) .l) (.n 75 aeu .l .l))) (.n 112 acB (.n 106 acy (.n 101 acx (.n 95 aew .l .l) .l) (.n 110 (acz++acA) .l .l)) (.n 160 acE (.n 131 acD (.n 113 acC .l .l) .l) (.n 161 acF .l .l))))
def T3:List (Tr aF):=t3::T2
def atF {O:bt} (hO:eM O) (hp:O.prog=prog) (hl:O.aW=aW):eP O T3:=by
 have h:=atB hO hp hl;have c7:=kO hO hp hl h atD;have c8:=kO hO hp hl h atE;exact eP.cons (aN (c7 9 rfl) (aN (c7 4 rfl) (aN (c7 2 rfl) (aN (c7 1 rfl) (aN (c7 0 rfl) aL aL) aL) (aN (c7 3 rfl) aL aL)) (aN (c7 7 rfl) (aN (c7 6 rfl) (aN (c7 5 rfl) aL aL) aL) (aN (c7 8 rfl) aL aL))) (aN (c8 1 rfl) (aN (c7 12 rfl) (aN (c7 11 rfl) (aN (c7 10 rfl) aL aL) aL) (aN (.cX (c7 13 rfl) (c8 0 rfl)) aL aL)) (aN (c8 4 rfl) (aN (c8 3 rfl) (aN (c8 2 rfl) aL aL) aL) (aN (c8 5 rfl) aL aL)))) h
def aex:aF:=[.m 57092 [cg,j 1000] (j 0) (.o 28943 [v105,j 100] (j 0))
 (.o 61531 [Ky,j 1000] (j 0))]
def aey:aF:=[.o 56899 [WU,.fn (.f 36) [] []] (.bW false 1 5 [j 0,j 0,j 0,j 0,j 0])]
def aez:aF:=[.o 26853 [j 2,.fn (.f 58) [] [.aQ [cg],.aQ [j 1],.aQ [j 0]]] (Po),
 .o 26853 [j 2,.fn (.f 41) [] [.aQ [v105],.aQ [cg],.aQ [j 1]]] (Ky)]
def aeA:aF:=[.m 32083 [v75,v65] (v10) (.m 17515 [v10,v10] (v68) (.m 13339 [v11,dc] (dc) (.m 13338 [v12,dc] (v12) (.o 5093 [v70,nQ] (dc))
 (.l))
 (.m 16987 [dc,dc] (v65) (.o 13342 [v76,dc] (v42))
 (.l)))
 (.m 22905 [v11,zh] (zh) (.m 22904 [v12,zh] (v12) (.o 22778 [nQ,v70] (dc))
 (.l))
 (.o 32081 [v76,v65] (v11))))
 (.m 47411 [v65,v12] (v12) (.m 40378 [dc,v11] (dc) (.m 40115 [dc,v12] (v12) (.o 32091 [v77,v65] (GX))
 (.l))
 (.m 40904 [dc,v40] (v10) (.o 40641 [dc,v42] (v11))
 (.l)))
 (.m 48200 [v65,v40] (GW) (.m 47937 [v65,v42] (dc) (.o 47674 [v65,v11] (v65))
 (.l))
 (.o 55471 [v40,WW] (v11))))]
def aeB:aF:=[.m 2151 [v21] (nQ) (.m 2149 [.str [51]] (v40) (.m 2147 [v4] (v11) (.o 2146 [v0] (v12))
 (.l))
 (.o 2150 [.str [52]] (v76)))
 (.m 45023 [v2] (dc) (.m 17849 [v5] (v70) (.o 14754 [v20] (v44))
 (.l))
 (.o 45025 [v1] (v10)))]
def aeC:aF:=[.m 44894 [zi] (.au [.agg [v2,v4],j 0]) (.o 14255 [rD] (.au [.agg [v0,v2],j 0]))
 (.o 52488 [v59] (.au [.agg [v3,v0],j 0]))]
def aeD:aF:=[.o 25239 [Qq,v63] (Qq)]
def aeE:aF:=[.m 5365 [WV] (v69) (.m 5360 [v40] (WW) (.o 5359 [v42] (dc))
 (.o 5361 [v76] (v65)))
 (.m 5369 [v46] (WX) (.o 5367 [v44] (v70))
 (.l))]
def aeF:aF:=[.m 32077 [v12,v65] (v65) (.m 13338 [v12,dc] (dc) (.m 13076 [v11,.agg [j (-1),.ab,j 2,.ab]] (dc) (.o 1265 [v69,.agg [j (-1),.ab,j 12,.ab]] (zh))
 (.l))
 (.m 24283 [v65,dc] (GW) (.o 16987 [dc,dc] (v11))
 (.l)))
 (.m 40117 [v10,v47] (dc) (.m 40115 [dc,v12] (dc) (.o 39677 [GX,.agg [j (-9),.ab,j 4,.ab]] (Ql))
 (.l))
 (.o 43550 [GW,GW] (v10)))]
def aeG:aF:=[.m 45023 [v2] (j 0) (.o 17849 [v5] (j 0))
 (.o 45025 [v1] (j 0))]
def aeH:aF:=[.o 30369 [v72,.aQ [v73]] (v11)]
def k9:List (Nat×aF):=[(32,aex),(35,aey),(40,aez),(49,aeA),(62,aeB),(65,aeC),(72,aeD),(73,aeE),(74,aeF),(86,aeG),(91,aeH)]
def atG:jd prog aW T3 k9=true:=by decide+kernel
def abp:aF:=[.m 21813 [Em] (v79) (.o 21549 [v51] (v79))
 (.l)]
def abq:aF:=[.o 1866 [UX,.fn (.f 53) [] []] (.bW false 1 1 [j 0])]
def abr:aF:=[.m 44566 [LB,.fn (.f 107) [] []] (.bool false) (.o 737 [Qn,.fn (.f 107) [] []] (.bool false))
 (.l)]
def abt:aF:=[.o 2131 [v93,.aQ [Gn]] (j 0)]
def k10:List (Nat×aF):=[(104,abp),(121,abq),(122,abr),(126,abt)]
def aqP:jd prog aW T3 k10=true:=by decide+kernel
def t4:Tr aF:=(.n 73 aeE (.n 49 aeA (.n 35 aey (.n 32 aex .l .l) (.n 40 aez .l .l)) (.n 65 aeC (.n 62 aeB .l .l) (.n 72 aeD .l .l))) (.n 104 abp (.n 86 aeG (.n 74 aeF .l .l) (.n 91 aeH .l .l)) (.n 122 abr (.n 121 abq .l .l) (.n 126 abt .l .l))))
def T4:List (Tr aF):=t4::T3
def atH {O:bt} (hO:eM O) (hp:O.prog=prog) (hl:O.aW=aW):eP O T4:=by
 have h:=atF hO hp hl;have c9:=kO hO hp hl h atG;have Qu:=kO hO hp hl h aqP;exact eP.cons (aN (c9 7 rfl) (aN (c9 3 rfl) (aN (c9 1 rfl) (aN (c9 0 rfl) aL aL) (aN (c9 2 rfl) aL aL)) (aN (c9 5 rfl) (aN (c9 4 rfl) aL aL) (aN (c9 6 rfl) aL aL))) (aN (Qu 0 rfl) (aN (c9 9 rfl) (aN (c9 8 rfl) aL aL) (aN (c9 10 rfl) aL aL)) (aN (Qu 2 rfl) (aN (Qu 1 rfl) aL aL) (aN (Qu 3 rfl) aL aL)))) h
def aeI:aF:=[.o 32481 [cg] (j 0)]
def aeJ:aF:=[.o 31824 [j 1,j 2,WU] (.au [UW,j 0])]
def acG:aF:=[.m 37836 [GX,v68] (Ql) (.m 13339 [v11,dc] (dc) (.o 1528 [v69,WX] (zh))
 (.l))
 (.m 40380 [v10,v11] (dc) (.o 40115 [dc,v12] (dc))
 (.l))]
def acH:aF:=[.m 26771 [Qs] (j 0) (.m 19734 [Qr] (j 0) (.o 19732 [.agg [v2,v0]] (j 0))
 (.l))
 (.o 58079 [.agg [v5,v0]] (j 0))]
def acI:aF:=[.m 42376 [v87] (v63) (.m 19734 [Qr] (v80) (.o 19732 [.agg [v2,v0]] (En))
 (.o 26771 [Qs] (v82)))
 (.m 42639 [mW] (v83) (.o 42377 [v91] (Qq))
 (.o 58079 [.agg [v5,v0]] (v84)))]
def acJ:aF:=[.o 44745 [Em,cg] (v40)]
def acK:aF:=[.m 25846 [v21,j 0] (j 0) (.m 25845 [.str [52],j 0] (j 0) (.o 25841 [v0,j 0] (j 0))
 (.l))
 (.m 38449 [v20,j 0] (j 0) (.o 26105 [v4,j 1] (j 0))
 (.l))]
def acL:aF:=[.o 13594 [zj,nQ] (.bool true)]
def acM:aF:=[.m 37522 [v76,v76] (v11) (.m 36996 [v76,v42] (v42) (.m 36993 [v11,v42] (dc) (.o 36992 [v12,v42] (v12))
 (.l))
 (.o 37258 [v40,v40] (v11)))
 (.m 37532 [v77,v76] (GX) (.o 37524 [v75,v76] (v10))
 (.o 39101 [nQ,v44] (dc)))]
def acN:aF:=[.m 33840 [v84,nQ] (En) (.m 3604 [En,v11] (En) (.o 3341 [En,v12] (v63))
 (.o 10745 [zi,v11] (zi)))
 (.m 49226 [v83,dc] (rD) (.o 45627 [rD,v11] (rD))
 (.o 51652 [Qq,zh] (v59)))]
def acO:aF:=[.o 42377 [UX] (j 0)]
def acP:aF:=[.m 41248 [Qn] (.au [v93,j 0]) (.o 19556 [LB] (.au [GY,j 0]))
 (.l)]
def acQ:aF:=[.m 42642 [v93] (.bW true 4 2 [j 1,.ab,j 1,.ab,j 1,.ab,j 1,.ab]) (.o 3991 [v107] (.bW true 4 1 [j 3,.ab,j 1,.ab]))
 (.l)]
def acR:aF:=[.o 2579 [.aJ false 1 [Qp],.aQ [v4]] (.bW false 1 1 [v85])]
def acS:aF:=[.o 63847 [.aJ true 2 [v72,v72],.fn (.f 91) [] [.aQ [v73]]] (.bW false 4 2 [j 1,.ab,j 1,.ab,j 1,.ab,j 1,.ab])]
def abu:aF:=[.m 61636 [v12,LB,.fn (.f 74) [] []] (dc) (.o 47668 [v12,.aJ false 4 [j 0,.ab,j 1,.ab,j 1,.ab,j 4,.ab,j 1,.ab,j 2,.ab,j 3,.ab,j 4,.ab],.fn (.f 74) [] []] (v10))
 (.l)]
def abv:aF:=[.m 12900 [zi,En] (WY) (.m 9251 [v83,En] (zi) (.o 5389 [rD,v63] (rD))
 (.l))
 (.o 36028 [zi,v63] (zi))]
def abw:aF:=[.o 3973 [Gn,.fn (.f 126) [] [.aQ [Gn]]] (j 0)]
def k11:List (Nat×aF):=[(4,aeI),(5,aeJ),(50,acG),(53,acH),(54,acI),(56,acJ),(61,acK),(63,acL),(70,acM),(75,acN),(78,acO),(83,acP),(88,acQ),(89,acR),(92,acS),(106,abu),(112,abv),(127,abw)]
def aqQ:jd prog aW T4 k11=true:=by decide+kernel
def t5:Tr aF:=(.n 75 acN (.n 54 acI (.n 50 acG (.n 5 aeJ (.n 4 aeI .l .l) .l) (.n 53 acH .l .l)) (.n 63 acL (.n 61 acK (.n 56 acJ .l .l) .l) (.n 70 acM .l .l))) (.n 92 acS (.n 88 acQ (.n 83 acP (.n 78 acO .l .l) .l) (.n 89 acR .l .l)) (.n 112 abv (.n 106 abu .l .l) (.n 127 abw .l .l))))
def T5:List (Tr aF):=t5::T4
def atI {O:bt} (hO:eM O) (hp:O.prog=prog) (hl:O.aW=aW):eP O T5:=by
 have h:=atH hO hp hl;have ix:=kO hO hp hl h aqQ;exact eP.cons (aN (ix 9 rfl) (aN (ix 4 rfl) (aN (ix 2 rfl) (aN (ix 1 rfl) (aN (ix 0 rfl) aL aL) aL) (aN (ix 3 rfl) aL aL)) (aN (ix 7 rfl) (aN (ix 6 rfl) (aN (ix 5 rfl) aL aL) aL) (aN (ix 8 rfl) aL aL))) (aN (ix 14 rfl) (aN (ix 12 rfl) (aN (ix 11 rfl) (aN (ix 10 rfl) aL aL) aL) (aN (ix 13 rfl) aL aL)) (aN (ix 16 rfl) (aN (ix 15 rfl) aL aL) (aN (ix 17 rfl) aL aL)))) h
def aeK:aF:=[.o 63249 [cg,v105] (.au [Ky,j 0])]
def acT:aF:=[.o 63729 [cg,j 1,j 0] (.au [Po,j 0])]
def acU:aF:=[.o 26853 [j 2,.fn (.f 44) [] [.aQ [cg]]] (v10),
 .o 26853 [j 2,.fn (.f 47) [] [.aQ [cg]]] (v10),
 .o 26853 [j 2,.fn (.f 48) [] [.aQ [cg]]] (GX),
 .o 26853 [j 2,.fn (.f 52) [] [.aQ [cg],.aQ [j 1],.aQ [j 0]]] (v11)]
def acV:aF:=[.m 48449 [GZ] (j 0) (.o 46691 [zj] (j 0))
 (.o 64152 [AF] (j 0))]
def acW:aF:=[.m 13425 [GZ,nQ,v87] (v63) (.o 5737 [AF,nQ,mW] (zi))
 (.o 53797 [zj,nQ,mW] (rD))]
def acX:aF:=[.o 44484 [Gn] (j 0)]
def acY:aF:=[.o 3973 [Gn,.fn (.f 88) [] []] (.bW false 1 1 [Qp])]
def acZ:aF:=[.o 39364 [.aJ false 1 [v85],.aJ true 1 [j 3,.ab,j 1,.ab]] (.bW true 4 1 [j 1,.ab,j 1,.ab])]
def abx:aF:=[.m 33227 [dc,j 2] (.au [j 0,dc]) (.m 29579 [v11,j 2] (.au [j 1,v12]) (.o 29578 [v12,j 2] (.au [j 0,v12]))
 (.l))
 (.o 33229 [v10,j 2] (.au [j 1,dc]))]
def aby:aF:=[.m 23891 [v48] (.agg [j 1,.ab,j 4,.ab,j 1,.ab,j 4,.ab,j 1,.ab,j 4,.ab,j 1,.ab,j 4,.ab]) (.o 13102 [El] (.agg [j 1,.ab,j 2,.ab,j 0,.ab,j 1,.ab,j 1,.ab,j 2,.ab,j 0,.ab,j 1,.ab]))
 (.o 32339 [v53] (.agg [j 1,.ab,j 2,.ab,j 1,.ab,j 2,.ab,j 0,.ab,j 1,.ab,j 0,.ab,j 1,.ab]))]
def abz:aF:=[.o 45199 [v109] (j 0)]
def k12:List (Nat×aF):=[(9,aeK),(20,acT),(45,acU),(60,acV),(64,acW),(84,acX),(87,acY),(90,acZ),(103,abx),(104,aby),(115,abz)]
def aqR:jd prog aW T5 k12=true:=by decide+kernel
def t6:Tr aF:=(.n 84 acX (.n 45 acU (.n 20 acT (.n 9 aeK .l .l) .l) (.n 64 acW (.n 60 acV .l .l) .l)) (.n 103 abx (.n 90 acZ (.n 87 acY .l .l) .l) (.n 115 abz (.n 104 aby .l .l) .l)))
def T6:List (Tr aF):=t6::T5
def atJ {O:bt} (hO:eM O) (hp:O.prog=prog) (hl:O.aW=aW):eP O T6:=by
 have h:=atI hO hp hl;have rE:=kO hO hp hl h aqR;exact eP.cons (aN (rE 5 rfl) (aN (rE 2 rfl) (aN (rE 1 rfl) (aN (rE 0 rfl) aL aL) aL) (aN (rE 4 rfl) (aN (rE 3 rfl) aL aL) aL)) (aN (rE 8 rfl) (aN (rE 7 rfl) (aN (rE 6 rfl) aL aL) aL) (aN (rE 10 rfl) (aN (rE 9 rfl) aL aL) aL))) h
def ac0:aF:=[.o 32481 [cg] (Pp)]
def ac1:aF:=[.o 32481 [cg] (.au [.str [53,47,52],j 0])]
def ac2:aF:=[.o 63729 [cg,j 1,j 0] (.au [v4,j 0])]
def ac3:aF:=[.m 61077 [zj,v21,mW] (.au [.agg [v0,v2],j 0]) (.o 13017 [AF,v21,mW] (.au [.agg [v2,v4],j 0]))
 (.l)]
def ac4:aF:=[.o 12660 [zj,.str [52],v87,v91] (.au [.agg [v3,v0],j 0])]
def ac5:aF:=[.o 53661 [Gn,v107,v4] (.au [v93,j 0])]
def ac6:aF:=[.m 58325 [v63,j 2] (v51) (.m 42125 [v82,j 2] (v48) (.o 38476 [rD,j 2] (El))
 (.l))
 (.m 65467 [WY,j 2] (Em) (.o 61976 [v80,j 2] (v53))
 (.l))]
def ac7:aF:=[.m 46823 [v48,cg] (v10) (.o 36034 [El,cg] (v11))
 (.o 55271 [v53,cg] (dc))]
def ac8:aF:=[.m 62507 [v109,zj,mW,j 0] (j 0) (.o 44889 [v109,AF,mW,j 1] (j 0))
 (.l)]
def ac9:aF:=[.o 7939 [.aJ true 1 [v0,v0,v0],.fn (.f 60) [] []] (.bW false 1 1 [j 0])]
def abA:aF:=[.m 44889 [v109,AF,mW,j 1] (WY) (.o 24084 [v109,GZ,v87,j 0] (v63))
 (.o 62507 [v109,zj,mW,j 0] (rD))]
def abB:aF:=[.o 4689 [Kz,.fn (.f 115) [] []] (.bW false 1 1 [j 0])]
def k13:List (Nat×aF):=[(16,ac0),(17,ac1),(18,ac2),(22,ac3),(25,ac4),(27,ac5),(55,ac6),(56,ac7),(66,ac8),(77,ac9),(116,abA),(120,abB)]
def aqS:jd prog aW T6 k13=true:=by decide+kernel
def t7:Tr aF:=(.n 55 ac6 (.n 22 ac3 (.n 17 ac1 (.n 16 ac0 .l .l) (.n 18 ac2 .l .l)) (.n 27 ac5 (.n 25 ac4 .l .l) .l)) (.n 77 ac9 (.n 66 ac8 (.n 56 ac7 .l .l) .l) (.n 120 abB (.n 116 abA .l .l) .l)))
def T7:List (Tr aF):=t7::T6
def atK {O:bt} (hO:eM O) (hp:O.prog=prog) (hl:O.aW=aW):eP O T7:=by
 have h:=atJ hO hp hl;have jU:=kO hO hp hl h aqS;exact eP.cons (aN (jU 6 rfl) (aN (jU 3 rfl) (aN (jU 1 rfl) (aN (jU 0 rfl) aL aL) (aN (jU 2 rfl) aL aL)) (aN (jU 5 rfl) (aN (jU 4 rfl) aL aL) aL)) (aN (jU 9 rfl) (aN (jU 8 rfl) (aN (jU 7 rfl) aL aL) aL) (aN (jU 11 rfl) (aN (jU 10 rfl) aL aL) aL))) h
def ada:aF:=[.m 60666 [cg,Qs] (Pp) (.o 44523 [cg,Qr] (.au [v2,j 0]))
 (.l)]
def adb:aF:=[.m 62507 [v109,zj,mW,j 0] (dc) (.o 44889 [v109,AF,mW,j 1] (v10))
 (.l)]
def ade:aF:=[.o 45200 [Kz] (j 0)]
def adf:aF:=[.o 45043 [Kz,GZ,v87,j 0,j 4] (.bW false 4 4 [j 1,.ab,j 2,.ab,j 0,.ab,j 1,.ab,j 0,.ab,j 1,.ab,j 0,.ab,j 1,.ab])]
def k14:List (Nat×aF):=[(19,ada),(67,adb),(76,ade),(82,adf)]
def aqT:jd prog aW T7 k14=true:=by decide+kernel
def t8:Tr aF:=(.n 76 ade (.n 67 adb (.n 19 ada .l .l) .l) (.n 82 adf .l .l))
def T8:List (Tr aF):=t8::T7
def atL {O:bt} (hO:eM O) (hp:O.prog=prog) (hl:O.aW=aW):eP O T8:=by
 have h:=atK hO hp hl;have Qv:=kO hO hp hl h aqT;exact eP.cons (aN (Qv 2 rfl) (aN (Qv 1 rfl) (aN (Qv 0 rfl) aL aL) aL) (aN (Qv 3 rfl) aL aL)) h
def adg:aF:=[.m 62507 [v109,zj,mW,j 0] (.au [v2,j 0]) (.o 44889 [v109,AF,mW,j 1] (Pp))
 (.l)]
def adh:aF:=[.o 27996 [Kz,.aJ true 1 [v0,v0,v0],UX,j 0] (.au [.bW false 1 1 [GY],j 0])]
def k15:List (Nat×aF):=[(24,adg),(26,adh)]
def aqU:jd prog aW T8 k15=true:=by decide+kernel
def t9:Tr aF:=(.n 26 adh (.n 24 adg .l .l) .l)
def T9:List (Tr aF):=t9::T8
def atM {O:bt} (hO:eM O) (hp:O.prog=prog) (hl:O.aW=aW):eP O T9:=by
 have h:=atL hO hp hl;have c15:=kO hO hp hl h aqU;exact eP.cons (aN (c15 1 rfl) (aN (c15 0 rfl) aL aL) aL) h
def aeL:aF:=[.o 7 [] (.bool true)]
def k16:List (Nat×aF):=[(1,aeL)]
def aqV:jd prog aW T9 k16=true:=by decide+kernel
def t10:Tr aF:=(.n 1 aeL .l .l)
def T10:List (Tr aF):=t10::T9
def aqW {O:bt} (hO:eM O) (hp:O.prog=prog) (hl:O.aW=aW):eP O T10:=by
 have h:=atM hO hp hl;have c16:=kO hO hp hl h aqV;exact eP.cons (aN (c16 0 rfl) aL aL) h
def holds {O:bt} (hO:eM O) (hp:O.prog=prog) (hl:O.aW=aW):eS O 1 [] (.bool true):=Tr.CO (aqW hO hp hl t10 (.head _)) (i:=1) rfl _ _ ⟨_,.head _,.inl rfl⟩
end VK1
end VE
