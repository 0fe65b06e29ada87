import Derived.Test.YtflgmingejdfnaaGreatDoorTam
import Derived.Test.YtflgmingejdfnaaGreatDoorTal
set_option linter.all false
set_option maxRecDepth 100000
namespace VE
namespace VR
def T0:List (Tr av):=[]
def ahG {O:a8} (_hO:ek O) (_hp:O.prog=prog) (_hl:O.aK=aK):dw O T0:=dw.nil
abbrev j (n:Int):AV:= .int .i64 n
abbrev u (n:Nat):AV:= .int .u64 n
def w (l:List Nat):AV:= .aB true l.length (l.map u)
def v0:AV:= .str [48]
def v1:AV:= .str [51,47,50]
def v2:AV:= .str [49,47,50]
def v3:AV:= .str [49,47,50,52]
def v4:AV:= .str [49]
def v5:AV:= .str [49,47,49,48]
def v6:AV:= .aB true 2 [j 0,j 1]
def v7:AV:= .aB true 2 [j 2,j 3]
def v8:AV:= .aB true 3 [j 0,j 0,j 0]
def v9:AV:= .aB true 4 [j 0,j 0,j 0,j 0]
def v10:AV:= .agg [j 3,.aa,j 2,.aa]
def v11:AV:= .agg [j 1,.aa,j 1,.aa]
def v12:AV:= .agg [j 0,.aa,j 1,.aa]
def ck:AV:= .agg [j 1,.aa,j 2,.aa]
def mS:AV:= .agg [j 1,.aa,j 24,.aa]
def Gi:AV:= .agg [j 5,.aa,j 4,.aa]
def KX:AV:= .aB true 2 [j 3,j 2]
def Gj:AV:= .aB true 2 [j 1,j 2]
def KY:AV:= .aB true 2 [j 1,j 0]
def z8:AV:= .aB true 2 [j 2,j 4]
def v20:AV:= .str [49,48]
def v21:AV:= .str [53]
def v22:AV:= .agg [j 1,.aa]
def cO:AV:= .agg [j 3,.aa]
def v24:AV:= .agg [j 6,.aa]
def v25:AV:= .agg [j 2,.aa]
def bB:AV:= .agg [j 0,.aa]
def v27:AV:= .agg [j 4,.aa]
def v28:AV:= .agg [j 5,.aa]
def Aa:AV:= .agg [j 14,.aa]
def v30:AV:= .agg [j 10,.aa]
def v31:AV:= .agg [j 8,.aa]
def Ab:AV:= .agg [j (-1),.aa]
def v33:AV:= .agg [j 12,.aa]
def Ac:AV:= .agg [j 9,.aa]
def v35:AV:= .agg [j 16,.aa]
def v36:AV:= .agg [j 96,.aa]
def v37:AV:= .agg [j 100,.aa]
def v38:AV:= .agg [j 24,.aa]
def KZ:AV:= .agg [j (-2),.aa]
def v40:AV:= .agg [j 3,.aa,j 1,.aa]
def K0:AV:= .aB true 5 [j 1,j 1,j 1,j 1,j 1]
def v42:AV:= .agg [j 2,.aa,j 1,.aa]
def jE:AV:= .agg [j 5,.aa,j 1,.aa]
def v44:AV:= .agg [j 10,.aa,j 1,.aa]
def K1:AV:= .agg [j 8,.aa,j 1,.aa]
def v46:AV:= .agg [j 12,.aa,j 1,.aa]
def VS:AV:= .agg [j (-1),.aa,j 1,.aa]
def v48:AV:= .agg [j 0,j 0,j 1,.aa,j 2,.aa,j 1,.aa,j 2,.aa]
def v49:AV:= .aw [j 1,j 0]
def CT:AV:= .aw [j 0,j 0]
def v51:AV:= .agg [j 0,j 0,j 0,.aa,j 1,.aa,j 0,.aa,j 1,.aa]
def r5:AV:= .agg [j 0,j 0,j 0,.aa,j 1,.aa,j 1,.aa,j 2,.aa]
def v53:AV:= .agg [j 1,j 0,j 1,.aa,j 2,.aa,j 0,.aa,j 1,.aa]
def CU:AV:= .aw [j 1,j 1]
def CV:AV:= .aw [j 0,j 1]
def r6:AV:= .agg [j 1,j 1,j 0,.aa,j 1,.aa,j 0,.aa,j 1,.aa]
def mT:AV:= .agg [j 1,.aa,j 2,.aa,j 1,.aa,j 1,.aa]
def lR:AV:= .agg [j 0,.aa,j 1,.aa,j 1,.aa,j 2,.aa]
def v59:AV:= .agg [j 1,.aa,j 24,.aa,j 0,.aa,j 1,.aa]
def Gk:AV:= .aB false 2 [j 1,.aa,j 1,.aa,j 1,.aa,j 1,.aa]
def CW:AV:= .aB false 4 [j 1,.aa,j 2,.aa,j 0,.aa,j 1,.aa,j 0,.aa,j 1,.aa,j 0,.aa,j 1,.aa]
def Gl:AV:= .aB true 3 [j 0,j 1,j 0]
def v63:AV:= .agg [j 0,.aa,j 1,.aa,j 0,.aa,j 1,.aa]
def K2:AV:= .agg [j 1,.aa,j 3,.aa]
def v65:AV:= .agg [j 1,.aa,j 4,.aa]
def Ad:AV:= .agg [j 3,.aa,j 4,.aa]
def Ae:AV:= .agg [j 7,.aa,j 2,.aa]
def v68:AV:= .agg [j 9,.aa,j 4,.aa]
def v69:AV:= .agg [j 1,.aa,j 8,.aa]
def v70:AV:= .agg [j 1,.aa,j 10,.aa]
def K3:AV:= .agg [j 1,.aa,j 12,.aa]
def v72:AV:= .aB false 1 [j 1,.aa,j 1,.aa]
def v73:AV:= .aB true 1 [j 1,.aa,j 1,.aa]
def Gm:AV:= .aB true 2 [j 1,.aa,j 1,.aa,j 1,.aa,j 1,.aa]
def v75:AV:= .agg [j 6,.aa,j 1,.aa]
def v76:AV:= .agg [j 4,.aa,j 1,.aa]
def VT:AV:= .agg [j 14,.aa,j 1,.aa]
def Gn:AV:= .agg [j 1,.aa,j 1,.aa,j 0,.aa,j 1,.aa]
def VU:AV:= .agg [j 1,.aa,j 1,.aa,j 0,.aa,j 1,.aa,j 0,.aa,j 1,.aa,j 0,.aa,j 1,.aa]
def v80:AV:= .agg [j 3,.aa,j 2,.aa,j 0,.aa,j 1,.aa]
def r7:AV:= .agg [j 1,.aa,j 2,.aa,j 0,.aa,j 1,.aa]
def v82:AV:= .agg [j 1,.aa,j 2,.aa,j 1,.aa,j 2,.aa]
def v83:AV:= .agg [j 0,.aa,j 1,.aa,j 1,.aa,j 1,.aa]
def v84:AV:= .agg [j 1,.aa,j 10,.aa,j 0,.aa,j 1,.aa]
def v85:AV:= .aB false 1 [j 3,.aa,j 1,.aa]
def K4:AV:= .agg [j 1,.aa,j 1,.aa,j 1,.aa,j 1,.aa]
def v87:AV:= .agg [v0,v0]
def Gp:AV:= .agg [v1,v0]
def Gq:AV:= .agg [v2,v2]
def jh:AV:= .agg [v0,v4]
def v91:AV:= .agg [v4,v0]
def bJ:AV:= .aB true 2 [v6,v7]
def v93:AV:= .aB true 2 [v4,v4]
def Af:AV:= .aB true 4 [v2,v0,v0,v0]
def Ag:AV:= .agg [v0,v0,v0]
def mU:AV:= .agg [v0,v0,v20]
def oc:AV:= .agg [v5,v0,v0]
def Gr:AV:= .aw [bB,bB]
def Ah:AV:= .aw [v22,bB]
def Fv:AV:= .aw [v25,bB]
def rE:AV:= .aw [bB,v22]
def Ce:AV:= .aB true 2 [z8,z8]
def Fw:AV:= .aB true 2 [KY,KX]
def JP:AV:= .aB true 2 [Gj,Gj]
def v105:AV:= .aB true 3 [Gl,Gl,v8]
def Fx:AV:= .aw [v1,j 0]
def v107:AV:= .aB true 1 [.str [51]]
def JQ:AV:= .aB true 1 [v0,v0]
def v109:AV:= .agg [bJ,v21,v4,v2,v0,v0,v2,v0]
def Cf:AV:= .aB true 1 [bJ,v21,v4,v2,v0,v0,v2,v0]
def zE:AV:= .aB true 1 [v93]
def RN:av:=[.m 40535 [v0,v0] (v87) (.m 17893 [v1,v0] (Gp) (.m 17891 [v2,v0] (.agg [v2,v0]) (.o 9861 [v3,v0] (.agg [v3,v0]))
 (.l))
 (.m 24930 [v2,v2] (Gq) (.o 18154 [v2,v4] (.agg [v2,v4]))
 (.l)))
 (.m 47574 [v0,v2] (.agg [v0,v2]) (.m 40798 [v0,v4] (jh) (.o 40536 [v4,v0] (v91))
 (.l))
 (.o 56238 [v5,v0] (.agg [v5,v0])))]
def RO:av:=[.o 7 [] (bJ)]
def RP:av:=[.m 51556 [v93,v93] (.bool true) (.o 30452 [Af,Af] (.bool true))
 (.l)]
def RQ:av:=[.m 28694 [.bool false,j 12] (j 0) (.m 26327 [.bool false,j 3] (j 0) (.o 26064 [.bool false,j 2] (j 0))
 (.o 26853 [.bool false,j 5] (j 0)))
 (.m 33691 [.bool false,j 31] (j 0) (.o 28957 [.bool false,j 13] (j 0))
 (.l))]
def RR:av:=[.m 34670 [v8] (j 0) (.m 9480 [.aB true 6 [j 0,j 0,j 0,j 0,j 0,j 0]] (j 0) (.o 3683 [.aB false 1 [j 0]] (j 0))
 (.o 27379 [.aB true 2 [j 0,j 0]] (j 0)))
 (.m 51832 [v9] (j 0) (.o 44227 [.aB true 5 [j 0,j 0,j 0,j 0,j 0]] (j 0))
 (.l)),
 .o 44227 [.aB false 5 [j 0,j 0,j 0,j 0,j 0]] (j 0)]
def RS:av:=[.m 25801 [j 2,j 1] (j 3) (.m 25800 [j 1,j 1] (j 2) (.o 25799 [j 0,j 1] (j 1))
 (.l))
 (.m 25803 [j 4,j 1] (j 5) (.o 25802 [j 3,j 1] (j 4))
 (.l))]
def RU:av:=[.m 51329 [j 0,j 1,.ay [bJ]] (j 2) (.m 51067 [j 1,j 0,.ay [bJ]] (j 1) (.o 51066 [j 0,j 0,.ay [bJ]] (j 0))
 (.l))
 (.o 51330 [j 1,j 1,.ay [bJ]] (j 3))]
def RW:av:=[.m 9008 [v10] (v1) (.m 5358 [v11] (v4) (.o 5357 [v12] (v0))
 (.o 9006 [ck] (v2)))
 (.m 23741 [mS] (v3) (.o 16306 [Gi] (.str [53,47,52]))
 (.l))]
def RX:av:=[.m 51329 [j 0,j 1,.ay [bJ]] (j 2) (.m 51067 [j 1,j 0,.ay [bJ]] (j 1) (.o 51066 [j 0,j 0,.ay [bJ]] (j 0))
 (.l))
 (.o 51330 [j 1,j 1,.ay [bJ]] (j 3))]
def RY:av:=[.m 51329 [j 0,j 1,.ay [bJ]] (j 4) (.m 51067 [j 1,j 0,.ay [bJ]] (j 1) (.o 51066 [j 0,j 0,.ay [bJ]] (j 0))
 (.l))
 (.o 51330 [j 1,j 1,.ay [bJ]] (j 9))]
def RZ:av:=[.m 27519 [KX,KX] (.bool true) (.m 26991 [Gj,Gj] (.bool true) (.o 19169 [KY,KY] (.bool true))
 (.l))
 (.o 35077 [z8,z8] (.bool true))]
def R0:av:=[.m 48449 [Ag] (.bool true) (.o 46691 [mU] (.bool false))
 (.o 64152 [oc] (.bool true))]
def R1:av:=[.o 45199 [v109] (j 4)]
def R2:av:=[.o 26588 [j 0,j 4] (j 4)]
def R3:av:=[.m 26852 [j 1,.ay [j 1000]] (.bool false) (.o 26851 [j 0,.ay [j 1000]] (.bool false))
 (.l)]
def k0:List (Nat×av):=[(14,RN),(15,RO),(29,RP),(31,RQ),(33,RR),(38,RS),(44,RU),(46,RW),(47,RX),(48,RY),(59,RZ),(68,R0),(80,R1),(81,R2),(94,R3)]
def ahH:fI prog aK T0 k0=true:=by decide+kernel
def R4:av:=[.m 26853 [j 2,.ay [j 1000]] (.bool false) (.m 26852 [j 1,.ay [j 100]] (.bool false) (.o 26851 [j 0,.ay [j 100]] (.bool false))
 (.l))
 (.m 26855 [j 4,.ay [j 1000]] (.bool false) (.o 26854 [j 3,.ay [j 1000]] (.bool false))
 (.l))]
def R5:av:=[.m 1844 [j 3] (.fn (.f 133) [] [.ay [j 3]]) (.o 1843 [j 2] (.fn (.f 133) [] [.ay [j 2]]))
 (.l)]
def PT:av:=[.m 38722 [v22,cO] (cO) (.m 38201 [v24,v22] (v24) (.m 38196 [v22,v22] (v22) (.m 37934 [v25,bB] (bB) (.m 37933 [v22,bB] (bB) (.o 37932 [bB,bB] (bB))
 (.l))
 (.o 38195 [bB,v22] (bB)))
 (.m 38199 [v27,v22] (v27) (.m 38198 [cO,v22] (cO) (.o 38197 [v25,v22] (v25))
 (.l))
 (.o 38200 [v28,v22] (v28))))
 (.m 38460 [v25,v25] (v27) (.m 38458 [bB,v25] (bB) (.m 38209 [Aa,v22] (Aa) (.o 38205 [v30,v22] (v30))
 (.l))
 (.o 38459 [v22,v25] (v25)))
 (.m 38474 [.agg [j (-9),.aa],v25] (.agg [j (-18),.aa]) (.o 38462 [v27,v25] (v31))
 (.o 38721 [bB,cO] (bB)))))
 (.m 40036 [Ab,v31] (.agg [j (-8),.aa]) (.m 38987 [cO,v27] (v33) (.m 38985 [v22,v27] (v27) (.m 38984 [bB,v27] (bB) (.o 38724 [cO,cO] (Ac))
 (.l))
 (.o 38986 [v25,v27] (v31)))
 (.m 39247 [bB,v28] (bB) (.m 38991 [.agg [j 7,.aa],v27] (.agg [j 28,.aa]) (.o 38988 [v27,v27] (v35))
 (.l))
 (.o 39248 [v22,v28] (v28))))
 (.m 41096 [v31,v33] (v36) (.m 40572 [v30,v30] (v37) (.m 40563 [v22,v30] (v30) (.o 40562 [bB,v30] (bB))
 (.l))
 (.o 41089 [v22,v33] (v33)))
 (.m 64232 [bB,v37] (bB) (.o 44245 [v22,v38] (v38))
 (.o 64233 [v22,v37] (v37))))),
 .m 38458 [Ab,v25] (KZ) (.o 38195 [Ab,v22] (Ab))
 (.l)]
def PU:av:=[.m 38196 [v22,v22] (v11) (.o 38195 [bB,v22] (v12))
 (.o 38198 [cO,v22] (v40))]
def PV:av:=[.m 40564 [v25,v30] (j (-1)) (.o 38196 [v22,v22] (j 0))
 (.o 40567 [v28,v30] (j (-1)))]
def PW:av:=[.m 38458 [bB,v25] (v25) (.m 37934 [v25,Ab] (v22) (.m 37933 [v22,bB] (v22) (.o 37932 [bB,bB] (bB))
 (.l))
 (.o 38195 [bB,v22] (v22)))
 (.m 41100 [v33,v33] (v38) (.o 38986 [v25,v27] (v24))
 (.o 46902 [.agg [j 28,.aa],.agg [j (-18),.aa]] (v30)))]
def k1:List (Nat×av):=[(94,R4),(96,R5),(100,PT),(101,PU),(118,PV),(119,PW)]
def ahI:fI prog aK T0 k1=true:=by decide+kernel
def PX:av:=[.m 38468 [v30,KZ] (v31) (.m 38197 [v25,v22] (cO) (.m 37935 [cO,bB] (cO) (.o 37933 [v22,Ab] (bB))
 (.o 38196 [v22,v22] (v25)))
 (.m 38461 [cO,KZ] (v22) (.o 38460 [v25,v25] (v27))
 (.l)))
 (.m 39247 [bB,v28] (v28) (.m 38984 [bB,v27] (v27) (.o 38721 [bB,cO] (cO))
 (.l))
 (.m 41626 [v33,.agg [j (-8),.aa]] (v27) (.o 40562 [bB,v30] (v30))
 (.l))),
 .o 38468 [v30,v25] (v33)]
def PY:av:=[.m 26590 [.bool false,j 4] (j 0) (.m 26064 [.bool false,j 2] (j 0) (.o 25801 [.bool false,j 1] (j 0))
 (.l))
 (.m 28694 [.bool false,j 12] (j 0) (.o 26853 [.bool false,j 5] (j 0))
 (.l))]
def PZ:av:=[.m 51832 [v9] (j 0) (.o 27379 [.aB true 2 [j 0,j 0]] (j 0))
 (.l)]
def P0:av:=[.m 2149 [.str [51]] (.bool true) (.m 2147 [v4] (.bool true) (.o 2146 [v0] (.bool true))
 (.o 2148 [.str [50]] (.bool true)))
 (.m 2151 [v21] (.bool true) (.o 2150 [.str [52]] (.bool true))
 (.o 14754 [v20] (.bool true)))]
def P1:av:=[.m 26063 [j 1,j 2] (j 1) (.o 26062 [j 0,j 2] (j 0))
 (.o 26064 [j 2,j 2] (j 0)),
 .o 26062 [j (-1),j 2] (j 1)]
def P2:av:=[.m 28694 [v25] (.bool false) (.m 28693 [v22] (.bool false) (.o 28692 [bB] (.bool false))
 (.l))
 (.m 28716 [v38] (.bool false) (.o 28695 [cO] (.bool false))
 (.l))]
def P3:av:=[.m 38468 [v30,v25] (.aw [v28,bB]) (.m 38458 [bB,v25] (Gr) (.m 38198 [cO,v22] (.aw [cO,bB]) (.m 38196 [v22,v22] (Ah) (.o 38195 [bB,v22] (Gr))
 (.o 38197 [v25,v22] (Fv)))
 (.m 38204 [Ac,v22] (.aw [Ac,bB]) (.o 38199 [v27,v22] (.aw [v27,bB]))
 (.l)))
 (.m 38462 [v27,v25] (Fv) (.m 38460 [v25,v25] (Ah) (.o 38459 [v22,v25] (rE))
 (.l))
 (.m 38466 [v31,v25] (.aw [v27,bB]) (.o 38464 [v24,v25] (.aw [cO,bB]))
 (.l))))
 (.m 38987 [cO,v27] (.aw [bB,cO]) (.m 38984 [bB,v27] (Gr) (.m 38725 [v27,cO] (.aw [v22,v22]) (.o 38472 [Aa,v25] (.aw [.agg [j 7,.aa],bB]))
 (.l))
 (.m 38986 [v25,v27] (.aw [bB,v25]) (.o 38985 [v22,v27] (rE))
 (.l)))
 (.m 38993 [Ac,v27] (.aw [v25,v22]) (.m 38990 [v24,v27] (.aw [v22,v25]) (.o 38988 [v27,v27] (Ah))
 (.l))
 (.m 40046 [v30,v31] (.aw [v22,v25]) (.o 38998 [Aa,v27] (.aw [cO,v25]))
 (.l))))]
def k2:List (Nat×av):=[(119,PX),(124,PY),(125,PZ),(129,P0),(134,P1),(151,P2),(164,P3)]
def ahJ:fI prog aK T0 k2=true:=by decide+kernel
def P4:av:=[.m 40037 [v22,v31] (rE) (.m 38722 [v22,cO] (rE) (.m 38207 [v33,v22] (.aw [v33,bB]) (.m 38205 [v30,v22] (.aw [v30,bB]) (.o 38203 [v31,v22] (.aw [v31,bB]))
 (.l))
 (.m 38461 [cO,v25] (.aw [v22,v22]) (.o 38219 [v38,v22] (.aw [v38,bB]))
 (.l)))
 (.m 39252 [v28,v28] (Ah) (.m 39080 [v36,v27] (.aw [v38,bB]) (.o 38724 [cO,cO] (Ah))
 (.l))
 (.m 39518 [v31,v24] (.aw [v22,v25]) (.o 39257 [v30,v28] (Fv))
 (.l))))
 (.m 41089 [v22,v33] (rE) (.m 40060 [v38,v31] (.aw [cO,bB]) (.m 40052 [v35,v31] (Fv) (.o 40042 [v24,v31] (.aw [bB,v24]))
 (.l))
 (.m 40567 [v28,v30] (.aw [bB,v28]) (.o 40563 [v22,v30] (rE))
 (.l)))
 (.m 44245 [v22,v38] (rE) (.m 44244 [bB,v38] (Gr) (.o 42164 [v38,v35] (.aw [v22,v31]))
 (.l))
 (.m 63184 [v27,v36] (.aw [bB,v27]) (.o 44268 [v38,v38] (Ah))
 (.l))))]
def k3:List (Nat×av):=[(164,P4)]
def ahK:fI prog aK T0 k3=true:=by decide+kernel
def t1:Tr av:=(.n 81 R2 (.n 44 RU (.n 31 RQ (.n 15 RO (.n 14 RN .l .l) (.n 29 RP .l .l)) (.n 38 RS (.n 33 RR .l .l) .l)) (.n 59 RZ (.n 47 RX (.n 46 RW .l .l) (.n 48 RY .l .l)) (.n 80 R1 (.n 68 R0 .l .l) .l))) (.n 124 PY (.n 101 PU (.n 96 R5 (.n 94 (R3++R4) .l .l) (.n 100 PT .l .l)) (.n 119 (PW++PX) (.n 118 PV .l .l) .l)) (.n 134 P1 (.n 129 P0 (.n 125 PZ .l .l) .l) (.n 164 (P3++P4) (.n 151 P2 .l .l) .l))))
def T1:List (Tr av):=t1::T0
def ahL {O:a8} (hO:ek O) (hp:O.prog=prog) (hl:O.aK=aK):dw O T1:=by
 have h:=ahG hO hp hl;have c0:=ib hO hp hl h ahH;have c1:=ib hO hp hl h ahI;have c2:=ib hO hp hl h ahJ;have c3:=ib hO hp hl h ahK;exact dw.cons (aN (c0 13 rfl) (aN (c0 6 rfl) (aN (c0 3 rfl) (aN (c0 1 rfl) (aN (c0 0 rfl) aL aL) (aN (c0 2 rfl) aL aL)) (aN (c0 5 rfl) (aN (c0 4 rfl) aL aL) aL)) (aN (c0 10 rfl) (aN (c0 8 rfl) (aN (c0 7 rfl) aL aL) (aN (c0 9 rfl) aL aL)) (aN (c0 12 rfl) (aN (c0 11 rfl) aL aL) aL))) (aN (c2 1 rfl) (aN (c1 3 rfl) (aN (c1 1 rfl) (aN (.cy (c0 14 rfl) (c1 0 rfl)) aL aL) (aN (c1 2 rfl) aL aL)) (aN (.cy (c1 5 rfl) (c2 0 rfl)) (aN (c1 4 rfl) aL aL) aL)) (aN (c2 4 rfl) (aN (c2 3 rfl) (aN (c2 2 rfl) aL aL) aL) (aN (.cy (c2 6 rfl) (c3 0 rfl)) (aN (c2 5 rfl) aL aL) aL)))) h
def R6:av:=[.m 47931 [Ce,Ce] (.bool true) (.o 9899 [Fw,Fw] (.bool true))
 (.l),
 .o 9899 [JP,JP] (.bool true)]
def R7:av:=[.o 7 [] (v109)]
def R8:av:=[.o 58093 [.aB false 1 [Af],.aB true 1 [Af]] (.bool true)]
def R9:av:=[.m 43068 [j 1,j 1,j 2147483646] (j 0) (.m 25938 [j 2,j 1,j 16] (j 0) (.o 11651 [j 1,j 0,j 1000] (j 0))
 (.l))
 (.m 55041 [j 1,j (-999999999),j 999999999] (j 0) (.o 55040 [j 0,j (-999999999),j 999999999] (j 0))
 (.l))]
def Sa:av:=[.m 25649 [j 0,K0,.fn (.f 38) [] []] (j 5) (.o 12396 [j 0,.aB false 1 [j 4],.fn (.f 81) [] []] (j 4))
 (.l)]
def Sb:av:=[.m 36730 [v11,v11] (v11) (.m 36468 [v42,v12] (v12) (.m 36467 [v11,v12] (v12) (.o 36466 [v12,v12] (v12))
 (.l))
 (.o 36729 [v12,v11] (v12)))
 (.m 37256 [v11,v40] (v40) (.m 37255 [v12,v40] (v12) (.o 36992 [v12,v42] (v12))
 (.l))
 (.o 37781 [v12,jE] (v12)))]
def Sc:av:=[.m 31055 [oc,jE] (.bool true) (.o 15352 [Ag,jE] (.bool true))
 (.l)]
def Sd:av:=[.m 39101 [jE,v44] (j (-1)) (.o 39098 [v42,v44] (j (-1)))
 (.l)]
def Se:av:=[.m 36730 [v11,v11] (v42) (.m 36469 [v40,v12] (v40) (.m 36467 [v11,v12] (v11) (.o 36466 [v12,v12] (v12))
 (.l))
 (.o 36729 [v12,v11] (v11)))
 (.m 37002 [v44,.agg [j (-2),.aa,j 1,.aa]] (K1) (.o 36731 [v42,v11] (v40))
 (.o 37255 [v12,v40] (v40))),
 .m 37002 [v44,v42] (v46) (.o 36467 [v11,VS] (v12))
 (.l)]
def Sf:av:=[.o 4689 [Cf,.fn (.f 80) [] []] (.bX false 1 1 [j 4])]
def Sg:av:=[.m 2150 [.str [52]] (j 0) (.m 2147 [v4] (j 0) (.o 2146 [v0] (j 0))
 (.o 2149 [.str [51]] (j 0)))
 (.m 14754 [v20] (j 0) (.o 2151 [v21] (j 0))
 (.l))]
def Sh:av:=[.m 5504 [bJ,j 1,j 2] (j 1) (.m 2119 [bJ,j 2,j 1] (j 2) (.m 1856 [bJ,j 1,j 1] (j 3) (.o 1593 [bJ,j (-1),j 1] (j 3))
 (.l))
 (.o 5241 [bJ,j (-1),j 2] (j 1)))
 (.m 63729 [bJ,j 1,j 0] (j 1) (.m 63466 [bJ,j (-1),j 0] (j 1) (.o 5767 [bJ,j 2,j 2] (j 0))
 (.l))
 (.o 63992 [bJ,j 2,j 0] (j 0))),
 .m 63466 [bJ,j 0,j 0] (j 0) (.m 5241 [bJ,j 0,j 2] (j 0) (.o 1593 [bJ,j 0,j 1] (j 2))
 (.l))
 (.m 63992 [bJ,j 2,j (-1)] (j 2) (.o 63729 [bJ,j 1,j (-1)] (j 3))
 (.l)),
 .o 63466 [bJ,j (-1),j (-1)] (j 3),
 .o 63466 [bJ,j 0,j (-1)] (j 2)]
def P5:av:=[.m 62435 [v48,j 1,j 2] (v49) (.o 62172 [v48,j 0,j 2] (CT))
 (.l)]
def k4:List (Nat×av):=[(21,R6),(23,R7),(28,R8),(34,R9),(37,Sa),(49,Sb),(63,Sc),(71,Sd),(74,Se),(79,Sf),(86,Sg),(97,Sh),(105,P5)]
def ahM:fI prog aK T1 k4=true:=by decide+kernel
def P6:av:=[.m 60093 [v51,j 1,j 2] (v49) (.m 51383 [r5,j 0,j 2] (CT) (.m 5625 [v53,j 2,j 2] (CU) (.m 5362 [v53,j 1,j 2] (CT) (.o 5099 [v53,j 0,j 2] (v49))
 (.l))
 (.o 5888 [v53,j 3,j 2] (CV)))
 (.m 52172 [r5,j 3,j 2] (CU) (.m 51909 [r5,j 2,j 2] (CV) (.o 51646 [r5,j 1,j 2] (v49))
 (.l))
 (.o 59830 [v51,j 0,j 2] (CT))))
 (.m 60620 [r6,j 2,j 2] (v49) (.m 60357 [r6,j 1,j 2] (CV) (.m 60356 [v51,j 2,j 2] (CV) (.o 60094 [r6,j 0,j 2] (CU))
 (.l))
 (.o 60619 [v51,j 3,j 2] (CU)))
 (.m 62698 [v48,j 2,j 2] (CV) (.o 60883 [r6,j 3,j 2] (CT))
 (.o 62961 [v48,j 3,j 2] (CU))))]
def P7:av:=[.m 9006 [ck] (.bool false) (.m 5358 [v11] (.bool false) (.o 5357 [v12] (.bool false))
 (.l))
 (.m 23741 [mS] (.bool false) (.o 9008 [v10] (.bool false))
 (.l))]
def P8:av:=[.m 44894 [mT] (.agg [v2,v4]) (.o 14255 [lR] (.agg [v0,v2]))
 (.o 52488 [v59] (.agg [v3,v0]))]
def P9:av:=[.m 41248 [Gk] (.bX true 1 2 [v4,v4]) (.o 19556 [CW] (.bX true 1 4 [v2,v0,v0,v0]))
 (.l)]
def Qa:av:=[.m 38990 [v24,v27] (v25) (.m 38724 [cO,cO] (cO) (.m 38461 [cO,v25] (v22) (.m 38459 [v22,v25] (v22) (.o 38458 [bB,v25] (v25))
 (.o 38460 [v25,v25] (v25)))
 (.m 38722 [v22,cO] (v22) (.o 38462 [v27,v25] (v25))
 (.l)))
 (.m 38986 [v25,v27] (v25) (.m 38985 [v22,v27] (v22) (.o 38984 [bB,v27] (v27))
 (.l))
 (.m 38988 [v27,v27] (v27) (.o 38987 [cO,v27] (v22))
 (.l))))
 (.m 40567 [v28,v30] (v28) (.m 40042 [v24,v31] (v25) (.m 38998 [Aa,v27] (v25) (.o 38993 [Ac,v27] (v22))
 (.o 40037 [v22,v31] (v22)))
 (.m 40563 [v22,v30] (v22) (.o 40046 [v30,v31] (v25))
 (.l)))
 (.m 44244 [bB,v38] (v38) (.m 42164 [v38,v35] (v31) (.o 41089 [v22,v33] (v22))
 (.l))
 (.m 63184 [v27,v36] (v27) (.o 44245 [v22,v38] (v22))
 (.l))))]
def Qb:av:=[.m 53443 [z8,.fn (.f 94) [] [.ay [j 1000]]] (j (-1)) (.m 53180 [v7,.fn (.f 94) [] [.ay [j 1000]]] (j (-1)) (.o 52652 [v6,.fn (.f 94) [] [.ay [j 1000]]] (j (-1)))
 (.l))
 (.m 59943 [Gl,.fn (.f 94) [] [.ay [j 100]]] (j (-1)) (.o 59680 [v8,.fn (.f 94) [] [.ay [j 100]]] (j (-1)))
 (.l))]
def Qc:av:=[.m 9006 [ck] (bB) (.o 5357 [v12] (bB))
 (.l)]
def k5:List (Nat×av):=[(105,P6),(107,P7),(114,P8),(123,P9),(130,Qa),(132,Qb),(149,Qc)]
def ahN:fI prog aK T1 k5=true:=by decide+kernel
def Qd:av:=[.m 9008 [v10] (v22) (.o 5358 [v11] (v22))
 (.l)]
def Qe:av:=[.m 52923 [v30,j 2] (v37) (.o 52660 [v30,j 1] (v30))
 (.l)]
def k6:List (Nat×av):=[(149,Qd),(155,Qe)]
def ahO:fI prog aK T1 k6=true:=by decide+kernel
def t2:Tr av:=(.n 86 Sg (.n 49 Sb (.n 28 R8 (.n 23 R7 (.n 21 R6 .l .l) .l) (.n 37 Sa (.n 34 R9 .l .l) .l)) (.n 74 Se (.n 71 Sd (.n 63 Sc .l .l) .l) (.n 79 Sf .l .l))) (.n 123 P9 (.n 107 P7 (.n 105 (P5++P6) (.n 97 Sh .l .l) .l) (.n 114 P8 .l .l)) (.n 149 (Qc++Qd) (.n 132 Qb (.n 130 Qa .l .l) .l) (.n 155 Qe .l .l))))
def T2:List (Tr av):=t2::T1
def ahP {O:a8} (hO:ek O) (hp:O.prog=prog) (hl:O.aK=aK):dw O T2:=by
 have h:=ahL hO hp hl;have c4:=ib hO hp hl h ahM;have c5:=ib hO hp hl h ahN;have c6:=ib hO hp hl h ahO;exact dw.cons (aN (c4 10 rfl) (aN (c4 5 rfl) (aN (c4 2 rfl) (aN (c4 1 rfl) (aN (c4 0 rfl) aL aL) aL) (aN (c4 4 rfl) (aN (c4 3 rfl) aL aL) aL)) (aN (c4 8 rfl) (aN (c4 7 rfl) (aN (c4 6 rfl) aL aL) aL) (aN (c4 9 rfl) aL aL))) (aN (c5 3 rfl) (aN (c5 1 rfl) (aN (.cy (c4 12 rfl) (c5 0 rfl)) (aN (c4 11 rfl) aL aL) aL) (aN (c5 2 rfl) aL aL)) (aN (.cy (c5 6 rfl) (c6 0 rfl)) (aN (c5 5 rfl) (aN (c5 4 rfl) aL aL) aL) (aN (c6 1 rfl) aL aL)))) h
def Si:av:=[.o 1842 [j 1] (j 0)]
def Sj:av:=[.m 45155 [j 0,j 1,.ay [v105],.ay [bJ],.ay [j 1]] (j 2) (.m 44893 [j 1,j 0,.ay [v105],.ay [bJ],.ay [j 1]] (j 4) (.o 44892 [j 0,j 0,.ay [v105],.ay [bJ],.ay [j 1]] (j 2))
 (.l))
 (.o 45156 [j 1,j 1,.ay [v105],.ay [bJ],.ay [j 1]] (j 4))]
def Sk:av:=[.m 36730 [v11,v11] (v12) (.m 36467 [v11,v12] (v11) (.o 36466 [v12,v12] (v12))
 (.l))
 (.o 37002 [v44,v42] (K1))]
def Sl:av:=[.m 1842 [j 1] (j 0) (.o 1841 [j 0] (j 0))
 (.l)]
def Sm:av:=[.m 45155 [j 0,j 1,.ay [bJ],.ay [j 1],.ay [j 0]] (j 1) (.m 44893 [j 1,j 0,.ay [bJ],.ay [j 1],.ay [j 0]] (j 1) (.o 44892 [j 0,j 0,.ay [bJ],.ay [j 1],.ay [j 0]] (j 1))
 (.l))
 (.o 45156 [j 1,j 1,.ay [bJ],.ay [j 1],.ay [j 0]] (j 1))]
def Sn:av:=[.m 42377 [v91] (j 0) (.o 42376 [v87] (j 0))
 (.o 42639 [jh] (j 0))]
def So:av:=[.m 9008 [v10] (Fx) (.o 9006 [ck] (.aw [v2,j 0]))
 (.l)]
def Sr:av:=[.m 45155 [j 0,j 1,.ay [bJ],.ay [j 1],.ay [j 0]] (j 3) (.m 44893 [j 1,j 0,.ay [bJ],.ay [j 1],.ay [j 0]] (j 0) (.o 44892 [j 0,j 0,.ay [bJ],.ay [j 1],.ay [j 0]] (j 1))
 (.l))
 (.o 45156 [j 1,j 1,.ay [bJ],.ay [j 1],.ay [j 0]] (j 2))]
def Ss:av:=[.m 65476 [v63,v11] (v63) (.o 1007 [v63,jE] (v63))
 (.l)]
def Su:av:=[.o 29001 [v107,.fn (.f 86) [] []] (.bX false 1 1 [j 0])]
def Sv:av:=[.m 53443 [z8,.fn (.f 94) [] [.ay [j 1000]]] (.bool false) (.m 53180 [v7,.fn (.f 94) [] [.ay [j 1000]]] (.bool false) (.o 52652 [v6,.fn (.f 94) [] [.ay [j 1000]]] (.bool false))
 (.l))
 (.m 59943 [Gl,.fn (.f 94) [] [.ay [j 100]]] (.bool false) (.o 59680 [v8,.fn (.f 94) [] [.ay [j 100]]] (.bool false))
 (.l))]
def Qf:av:=[.m 38990 [v24,v27] (v10) (.m 38724 [cO,cO] (v11) (.m 38461 [cO,v25] (v10) (.m 38459 [v22,v25] (ck) (.o 38458 [bB,v25] (v12))
 (.o 38460 [v25,v25] (v11)))
 (.m 38722 [v22,cO] (K2) (.o 38462 [v27,v25] (v42))
 (.l)))
 (.m 38986 [v25,v27] (ck) (.m 38985 [v22,v27] (v65) (.o 38984 [bB,v27] (v12))
 (.l))
 (.m 38988 [v27,v27] (v11) (.o 38987 [cO,v27] (Ad))
 (.l))))
 (.m 40567 [v28,v30] (ck) (.m 40042 [v24,v31] (Ad) (.m 38998 [Aa,v27] (Ae) (.o 38993 [Ac,v27] (v68))
 (.o 40037 [v22,v31] (v69)))
 (.m 40563 [v22,v30] (v70) (.o 40046 [v30,v31] (Gi))
 (.l)))
 (.m 44244 [bB,v38] (v12) (.m 42164 [v38,v35] (v10) (.o 41089 [v22,v33] (K3))
 (.l))
 (.m 63184 [v27,v36] (mS) (.o 44245 [v22,v38] (mS))
 (.l))))]
def Qg:av:=[.m 47498 [v12,.aB false 4 [j 0,.aa,j 1,.aa,j 0,.aa,j 1,.aa,j 1,.aa,j 1,.aa,j 0,.aa,j 1,.aa],.fn (.f 74) [] []] (v11) (.o 20032 [v12,.aB false 4 [j 3,.aa,j 1,.aa,j 0,.aa,j 1,.aa,j 0,.aa,j 1,.aa,j 0,.aa,j 1,.aa],.fn (.f 74) [] []] (v40))
 (.l)]
def Qh:av:=[.o 2147 [v4] (v22)]
def k7:List (Nat×av):=[(36,Si),(41,Sj),(50,Sk),(51,Sl),(52,Sm),(53,Sn),(57,So),(58,Sr),(75,Ss),(85,Su),(95,Sv),(101,Qf),(106,Qg),(110,Qh)]
def ahQ:fI prog aK T2 k7=true:=by decide+kernel
def Qi:av:=[.m 2150 [.str [52]] (v27) (.m 2148 [.str [50]] (v25) (.o 2146 [v0] (bB))
 (.o 2149 [.str [51]] (cO)))
 (.m 14754 [v20] (v30) (.o 2151 [v21] (v28))
 (.l))]
def Qj:av:=[.o 25238 [v63,v63] (v63)]
def Qk:av:=[.m 44894 [mT] (.bool false) (.o 14255 [lR] (.bool false))
 (.o 52488 [v59] (.bool false))]
def Ql:av:=[.m 36994 [v72,v73] (v11) (.o 11145 [Gm,Gm] (v42))
 (.l)]
def Qm:av:=[.m 44566 [CW,.fn (.f 107) [] []] (j (-1)) (.o 737 [Gk,.fn (.f 107) [] []] (j (-1)))
 (.l)]
def Qn:av:=[.o 42642 [v93] (j 0)]
def k8:List (Nat×av):=[(110,Qi),(112,Qj),(113,Qk),(131,Ql),(160,Qm),(161,Qn)]
def ahR:fI prog aK T2 k8=true:=by decide+kernel
def t3:Tr av:=(.n 85 Su (.n 52 Sm (.n 50 Sk (.n 41 Sj (.n 36 Si .l .l) .l) (.n 51 Sl .l .l)) (.n 58 Sr (.n 57 So (.n 53 Sn .l .l) .l) (.n 75 Ss .l .l))) (.n 112 Qj (.n 106 Qg (.n 101 Qf (.n 95 Sv .l .l) .l) (.n 110 (Qh++Qi) .l .l)) (.n 160 Qm (.n 131 Ql (.n 113 Qk .l .l) .l) (.n 161 Qn .l .l))))
def T3:List (Tr av):=t3::T2
def ahS {O:a8} (hO:ek O) (hp:O.prog=prog) (hl:O.aK=aK):dw O T3:=by
 have h:=ahP hO hp hl;have c7:=ib hO hp hl h ahQ;have c8:=ib hO hp hl h ahR;exact dw.cons (aN (c7 9 rfl) (aN (c7 4 rfl) (aN (c7 2 rfl) (aN (c7 1 rfl) (aN (c7 0 rfl) aL aL) aL) (aN (c7 3 rfl) aL aL)) (aN (c7 7 rfl) (aN (c7 6 rfl) (aN (c7 5 rfl) aL aL) aL) (aN (c7 8 rfl) aL aL))) (aN (c8 1 rfl) (aN (c7 12 rfl) (aN (c7 11 rfl) (aN (c7 10 rfl) aL aL) aL) (aN (.cy (c7 13 rfl) (c8 0 rfl)) aL aL)) (aN (c8 4 rfl) (aN (c8 3 rfl) (aN (c8 2 rfl) aL aL) aL) (aN (c8 5 rfl) aL aL)))) h
def Sw:av:=[.m 57092 [bJ,j 1000] (j 0) (.o 28943 [v105,j 100] (j 0))
 (.o 61531 [Ce,j 1000] (j 0))]
def Sx:av:=[.o 56899 [K0,.fn (.f 36) [] []] (.bX false 1 5 [j 0,j 0,j 0,j 0,j 0])]
def Sy:av:=[.o 26853 [j 2,.fn (.f 58) [] [.ay [bJ],.ay [j 1],.ay [j 0]]] (Fw),
 .o 26853 [j 2,.fn (.f 41) [] [.ay [v105],.ay [bJ],.ay [j 1]]] (Ce)]
def Sz:av:=[.m 32083 [v75,v65] (v10) (.m 17515 [v10,v10] (v68) (.m 13339 [v11,ck] (ck) (.m 13338 [v12,ck] (v12) (.o 5093 [v70,jE] (ck))
 (.l))
 (.m 16987 [ck,ck] (v65) (.o 13342 [v76,ck] (v42))
 (.l)))
 (.m 22905 [v11,mS] (mS) (.m 22904 [v12,mS] (v12) (.o 22778 [jE,v70] (ck))
 (.l))
 (.o 32081 [v76,v65] (v11))))
 (.m 47411 [v65,v12] (v12) (.m 40378 [ck,v11] (ck) (.m 40115 [ck,v12] (v12) (.o 32091 [VT,v65] (Ae))
 (.l))
 (.m 40904 [ck,v40] (v10) (.o 40641 [ck,v42] (v11))
 (.l)))
 (.m 48200 [v65,v40] (Ad) (.m 47937 [v65,v42] (ck) (.o 47674 [v65,v11] (v65))
 (.l))
 (.o 55471 [v40,K2] (v11))))]
def SA:av:=[.m 2151 [v21] (jE) (.m 2149 [.str [51]] (v40) (.m 2147 [v4] (v11) (.o 2146 [v0] (v12))
 (.l))
 (.o 2150 [.str [52]] (v76)))
 (.m 45023 [v2] (ck) (.m 17849 [v5] (v70) (.o 14754 [v20] (v44))
 (.l))
 (.o 45025 [v1] (v10)))]
def SB:av:=[.m 44894 [mT] (.aw [.agg [v2,v4],j 0]) (.o 14255 [lR] (.aw [.agg [v0,v2],j 0]))
 (.o 52488 [v59] (.aw [.agg [v3,v0],j 0]))]
def SC:av:=[.o 25239 [Gn,v63] (Gn)]
def SD:av:=[.m 5365 [K1] (v69) (.m 5360 [v40] (K2) (.o 5359 [v42] (ck))
 (.o 5361 [v76] (v65)))
 (.m 5369 [v46] (K3) (.o 5367 [v44] (v70))
 (.l))]
def SE:av:=[.m 32077 [v12,v65] (v65) (.m 13338 [v12,ck] (ck) (.m 13076 [v11,.agg [j (-1),.aa,j 2,.aa]] (ck) (.o 1265 [v69,.agg [j (-1),.aa,j 12,.aa]] (mS))
 (.l))
 (.m 24283 [v65,ck] (Ad) (.o 16987 [ck,ck] (v11))
 (.l)))
 (.m 40117 [v10,VS] (ck) (.m 40115 [ck,v12] (ck) (.o 39677 [Ae,.agg [j (-9),.aa,j 4,.aa]] (Gi))
 (.l))
 (.o 43550 [Ad,Ad] (v10)))]
def SF:av:=[.m 45023 [v2] (j 0) (.o 17849 [v5] (j 0))
 (.o 45025 [v1] (j 0))]
def SG:av:=[.o 30369 [v72,.ay [v73]] (v11)]
def k9:List (Nat×av):=[(32,Sw),(35,Sx),(40,Sy),(49,Sz),(62,SA),(65,SB),(72,SC),(73,SD),(74,SE),(86,SF),(91,SG)]
def ahT:fI prog aK T3 k9=true:=by decide+kernel
def Pe:av:=[.m 21813 [r6] (VU) (.o 21549 [v51] (VU))
 (.l)]
def Pf:av:=[.o 1866 [JQ,.fn (.f 53) [] []] (.bX false 1 1 [j 0])]
def Pg:av:=[.m 44566 [CW,.fn (.f 107) [] []] (.bool false) (.o 737 [Gk,.fn (.f 107) [] []] (.bool false))
 (.l)]
def Ph:av:=[.o 2131 [v93,.ay [zE]] (j 0)]
def k10:List (Nat×av):=[(104,Pe),(121,Pf),(122,Pg),(126,Ph)]
def afr:fI prog aK T3 k10=true:=by decide+kernel
def t4:Tr av:=(.n 73 SD (.n 49 Sz (.n 35 Sx (.n 32 Sw .l .l) (.n 40 Sy .l .l)) (.n 65 SB (.n 62 SA .l .l) (.n 72 SC .l .l))) (.n 104 Pe (.n 86 SF (.n 74 SE .l .l) (.n 91 SG .l .l)) (.n 122 Pg (.n 121 Pf .l .l) (.n 126 Ph .l .l))))
def T4:List (Tr av):=t4::T3
def ahU {O:a8} (hO:ek O) (hp:O.prog=prog) (hl:O.aK=aK):dw O T4:=by
 have h:=ahS hO hp hl;have c9:=ib hO hp hl h ahT;have Gs:=ib hO hp hl h afr;exact dw.cons (aN (c9 7 rfl) (aN (c9 3 rfl) (aN (c9 1 rfl) (aN (c9 0 rfl) aL aL) (aN (c9 2 rfl) aL aL)) (aN (c9 5 rfl) (aN (c9 4 rfl) aL aL) (aN (c9 6 rfl) aL aL))) (aN (Gs 0 rfl) (aN (c9 9 rfl) (aN (c9 8 rfl) aL aL) (aN (c9 10 rfl) aL aL)) (aN (Gs 2 rfl) (aN (Gs 1 rfl) aL aL) (aN (Gs 3 rfl) aL aL)))) h
def SH:av:=[.o 32481 [bJ] (j 0)]
def SI:av:=[.o 31824 [j 1,j 2,K0] (.aw [JP,j 0])]
def Qo:av:=[.m 37836 [Ae,v68] (Gi) (.m 13339 [v11,ck] (ck) (.o 1528 [v69,K3] (mS))
 (.l))
 (.m 40380 [v10,v11] (ck) (.o 40115 [ck,v12] (ck))
 (.l))]
def Qp:av:=[.m 26771 [Gq] (j 0) (.m 19734 [Gp] (j 0) (.o 19732 [.agg [v2,v0]] (j 0))
 (.l))
 (.o 58079 [.agg [v5,v0]] (j 0))]
def Qq:av:=[.m 42376 [v87] (v63) (.m 19734 [Gp] (v80) (.o 19732 [.agg [v2,v0]] (r7))
 (.o 26771 [Gq] (v82)))
 (.m 42639 [jh] (v83) (.o 42377 [v91] (Gn))
 (.o 58079 [.agg [v5,v0]] (v84)))]
def Qr:av:=[.o 44745 [r6,bJ] (v40)]
def Qs:av:=[.m 25846 [v21,j 0] (j 0) (.m 25845 [.str [52],j 0] (j 0) (.o 25841 [v0,j 0] (j 0))
 (.l))
 (.m 38449 [v20,j 0] (j 0) (.o 26105 [v4,j 1] (j 0))
 (.l))]
def Qt:av:=[.o 13594 [mU,jE] (.bool true)]
def Qu:av:=[.m 37522 [v76,v76] (v11) (.m 36996 [v76,v42] (v42) (.m 36993 [v11,v42] (ck) (.o 36992 [v12,v42] (v12))
 (.l))
 (.o 37258 [v40,v40] (v11)))
 (.m 37532 [VT,v76] (Ae) (.o 37524 [v75,v76] (v10))
 (.o 39101 [jE,v44] (ck)))]
def Qv:av:=[.m 33840 [v84,jE] (r7) (.m 3604 [r7,v11] (r7) (.o 3341 [r7,v12] (v63))
 (.o 10745 [mT,v11] (mT)))
 (.m 49226 [v83,ck] (lR) (.o 45627 [lR,v11] (lR))
 (.o 51652 [Gn,mS] (v59)))]
def Qw:av:=[.o 42377 [JQ] (j 0)]
def Qx:av:=[.m 41248 [Gk] (.aw [v93,j 0]) (.o 19556 [CW] (.aw [Af,j 0]))
 (.l)]
def Qy:av:=[.m 42642 [v93] (.bX true 4 2 [j 1,.aa,j 1,.aa,j 1,.aa,j 1,.aa]) (.o 3991 [v107] (.bX true 4 1 [j 3,.aa,j 1,.aa]))
 (.l)]
def Qz:av:=[.o 2579 [.aB false 1 [Gm],.ay [v4]] (.bX false 1 1 [v85])]
def QA:av:=[.o 63847 [.aB true 2 [v72,v72],.fn (.f 91) [] [.ay [v73]]] (.bX false 4 2 [j 1,.aa,j 1,.aa,j 1,.aa,j 1,.aa])]
def Pj:av:=[.m 61636 [v12,CW,.fn (.f 74) [] []] (ck) (.o 47668 [v12,.aB false 4 [j 0,.aa,j 1,.aa,j 1,.aa,j 4,.aa,j 1,.aa,j 2,.aa,j 3,.aa,j 4,.aa],.fn (.f 74) [] []] (v10))
 (.l)]
def Pk:av:=[.m 12900 [mT,r7] (K4) (.m 9251 [v83,r7] (mT) (.o 5389 [lR,v63] (lR))
 (.l))
 (.o 36028 [mT,v63] (mT))]
def Pm:av:=[.o 3973 [zE,.fn (.f 126) [] [.ay [zE]]] (j 0)]
def k11:List (Nat×av):=[(4,SH),(5,SI),(50,Qo),(53,Qp),(54,Qq),(56,Qr),(61,Qs),(63,Qt),(70,Qu),(75,Qv),(78,Qw),(83,Qx),(88,Qy),(89,Qz),(92,QA),(106,Pj),(112,Pk),(127,Pm)]
def afs:fI prog aK T4 k11=true:=by decide+kernel
def t5:Tr av:=(.n 75 Qv (.n 54 Qq (.n 50 Qo (.n 5 SI (.n 4 SH .l .l) .l) (.n 53 Qp .l .l)) (.n 63 Qt (.n 61 Qs (.n 56 Qr .l .l) .l) (.n 70 Qu .l .l))) (.n 92 QA (.n 88 Qy (.n 83 Qx (.n 78 Qw .l .l) .l) (.n 89 Qz .l .l)) (.n 112 Pk (.n 106 Pj .l .l) (.n 127 Pm .l .l))))
def T5:List (Tr av):=t5::T4
def ahV {O:a8} (hO:ek O) (hp:O.prog=prog) (hl:O.aK=aK):dw O T5:=by
 have h:=ahU hO hp hl;have hY:=ib hO hp hl h afs;exact dw.cons (aN (hY 9 rfl) (aN (hY 4 rfl) (aN (hY 2 rfl) (aN (hY 1 rfl) (aN (hY 0 rfl) aL aL) aL) (aN (hY 3 rfl) aL aL)) (aN (hY 7 rfl) (aN (hY 6 rfl) (aN (hY 5 rfl) aL aL) aL) (aN (hY 8 rfl) aL aL))) (aN (hY 14 rfl) (aN (hY 12 rfl) (aN (hY 11 rfl) (aN (hY 10 rfl) aL aL) aL) (aN (hY 13 rfl) aL aL)) (aN (hY 16 rfl) (aN (hY 15 rfl) aL aL) (aN (hY 17 rfl) aL aL)))) h
def SJ:av:=[.o 63249 [bJ,v105] (.aw [Ce,j 0])]
def QB:av:=[.o 63729 [bJ,j 1,j 0] (.aw [Fw,j 0])]
def QC:av:=[.o 26853 [j 2,.fn (.f 44) [] [.ay [bJ]]] (v10),
 .o 26853 [j 2,.fn (.f 47) [] [.ay [bJ]]] (v10),
 .o 26853 [j 2,.fn (.f 48) [] [.ay [bJ]]] (Ae),
 .o 26853 [j 2,.fn (.f 52) [] [.ay [bJ],.ay [j 1],.ay [j 0]]] (v11)]
def QD:av:=[.m 48449 [Ag] (j 0) (.o 46691 [mU] (j 0))
 (.o 64152 [oc] (j 0))]
def QE:av:=[.m 13425 [Ag,jE,v87] (v63) (.o 5737 [oc,jE,jh] (mT))
 (.o 53797 [mU,jE,jh] (lR))]
def QF:av:=[.o 44484 [zE] (j 0)]
def QG:av:=[.o 3973 [zE,.fn (.f 88) [] []] (.bX false 1 1 [Gm])]
def QH:av:=[.o 39364 [.aB false 1 [v85],.aB true 1 [j 3,.aa,j 1,.aa]] (.bX true 4 1 [j 1,.aa,j 1,.aa])]
def Pn:av:=[.m 33227 [ck,j 2] (.aw [j 0,ck]) (.m 29579 [v11,j 2] (.aw [j 1,v12]) (.o 29578 [v12,j 2] (.aw [j 0,v12]))
 (.l))
 (.o 33229 [v10,j 2] (.aw [j 1,ck]))]
def Po:av:=[.m 23891 [v48] (.agg [j 1,.aa,j 4,.aa,j 1,.aa,j 4,.aa,j 1,.aa,j 4,.aa,j 1,.aa,j 4,.aa]) (.o 13102 [r5] (.agg [j 1,.aa,j 2,.aa,j 0,.aa,j 1,.aa,j 1,.aa,j 2,.aa,j 0,.aa,j 1,.aa]))
 (.o 32339 [v53] (.agg [j 1,.aa,j 2,.aa,j 1,.aa,j 2,.aa,j 0,.aa,j 1,.aa,j 0,.aa,j 1,.aa]))]
def Pp:av:=[.o 45199 [v109] (j 0)]
def k12:List (Nat×av):=[(9,SJ),(20,QB),(45,QC),(60,QD),(64,QE),(84,QF),(87,QG),(90,QH),(103,Pn),(104,Po),(115,Pp)]
def aft:fI prog aK T5 k12=true:=by decide+kernel
def t6:Tr av:=(.n 84 QF (.n 45 QC (.n 20 QB (.n 9 SJ .l .l) .l) (.n 64 QE (.n 60 QD .l .l) .l)) (.n 103 Pn (.n 90 QH (.n 87 QG .l .l) .l) (.n 115 Pp (.n 104 Po .l .l) .l)))
def T6:List (Tr av):=t6::T5
def ahW {O:a8} (hO:ek O) (hp:O.prog=prog) (hl:O.aK=aK):dw O T6:=by
 have h:=ahV hO hp hl;have lS:=ib hO hp hl h aft;exact dw.cons (aN (lS 5 rfl) (aN (lS 2 rfl) (aN (lS 1 rfl) (aN (lS 0 rfl) aL aL) aL) (aN (lS 4 rfl) (aN (lS 3 rfl) aL aL) aL)) (aN (lS 8 rfl) (aN (lS 7 rfl) (aN (lS 6 rfl) aL aL) aL) (aN (lS 10 rfl) (aN (lS 9 rfl) aL aL) aL))) h
def QI:av:=[.o 32481 [bJ] (Fx)]
def QJ:av:=[.o 32481 [bJ] (.aw [.str [53,47,52],j 0])]
def QK:av:=[.o 63729 [bJ,j 1,j 0] (.aw [v4,j 0])]
def QM:av:=[.m 61077 [mU,v21,jh] (.aw [.agg [v0,v2],j 0]) (.o 13017 [oc,v21,jh] (.aw [.agg [v2,v4],j 0]))
 (.l)]
def QN:av:=[.o 12660 [mU,.str [52],v87,v91] (.aw [.agg [v3,v0],j 0])]
def QO:av:=[.o 53661 [zE,v107,v4] (.aw [v93,j 0])]
def QP:av:=[.m 58325 [v63,j 2] (v51) (.m 42125 [v82,j 2] (v48) (.o 38476 [lR,j 2] (r5))
 (.l))
 (.m 65467 [K4,j 2] (r6) (.o 61976 [v80,j 2] (v53))
 (.l))]
def QQ:av:=[.m 46823 [v48,bJ] (v10) (.o 36034 [r5,bJ] (v11))
 (.o 55271 [v53,bJ] (ck))]
def QR:av:=[.m 62507 [v109,mU,jh,j 0] (j 0) (.o 44889 [v109,oc,jh,j 1] (j 0))
 (.l)]
def QS:av:=[.o 7939 [.aB true 1 [v0,v0,v0],.fn (.f 60) [] []] (.bX false 1 1 [j 0])]
def Pq:av:=[.m 44889 [v109,oc,jh,j 1] (K4) (.o 24084 [v109,Ag,v87,j 0] (v63))
 (.o 62507 [v109,mU,jh,j 0] (lR))]
def Pr:av:=[.o 4689 [Cf,.fn (.f 115) [] []] (.bX false 1 1 [j 0])]
def k13:List (Nat×av):=[(16,QI),(17,QJ),(18,QK),(22,QM),(25,QN),(27,QO),(55,QP),(56,QQ),(66,QR),(77,QS),(116,Pq),(120,Pr)]
def afu:fI prog aK T6 k13=true:=by decide+kernel
def t7:Tr av:=(.n 55 QP (.n 22 QM (.n 17 QJ (.n 16 QI .l .l) (.n 18 QK .l .l)) (.n 27 QO (.n 25 QN .l .l) .l)) (.n 77 QS (.n 66 QR (.n 56 QQ .l .l) .l) (.n 120 Pr (.n 116 Pq .l .l) .l)))
def T7:List (Tr av):=t7::T6
def ahX {O:a8} (hO:ek O) (hp:O.prog=prog) (hl:O.aK=aK):dw O T7:=by
 have h:=ahW hO hp hl;have kT:=ib hO hp hl h afu;exact dw.cons (aN (kT 6 rfl) (aN (kT 3 rfl) (aN (kT 1 rfl) (aN (kT 0 rfl) aL aL) (aN (kT 2 rfl) aL aL)) (aN (kT 5 rfl) (aN (kT 4 rfl) aL aL) aL)) (aN (kT 9 rfl) (aN (kT 8 rfl) (aN (kT 7 rfl) aL aL) aL) (aN (kT 11 rfl) (aN (kT 10 rfl) aL aL) aL))) h
def QT:av:=[.m 60666 [bJ,Gq] (Fx) (.o 44523 [bJ,Gp] (.aw [v2,j 0]))
 (.l)]
def QU:av:=[.m 62507 [v109,mU,jh,j 0] (ck) (.o 44889 [v109,oc,jh,j 1] (v10))
 (.l)]
def QV:av:=[.o 45200 [Cf] (j 0)]
def QW:av:=[.o 45043 [Cf,Ag,v87,j 0,j 4] (.bX false 4 4 [j 1,.aa,j 2,.aa,j 0,.aa,j 1,.aa,j 0,.aa,j 1,.aa,j 0,.aa,j 1,.aa])]
def k14:List (Nat×av):=[(19,QT),(67,QU),(76,QV),(82,QW)]
def afv:fI prog aK T7 k14=true:=by decide+kernel
def t8:Tr av:=(.n 76 QV (.n 67 QU (.n 19 QT .l .l) .l) (.n 82 QW .l .l))
def T8:List (Tr av):=t8::T7
def ahY {O:a8} (hO:ek O) (hp:O.prog=prog) (hl:O.aK=aK):dw O T8:=by
 have h:=ahX hO hp hl;have zY:=ib hO hp hl h afv;exact dw.cons (aN (zY 2 rfl) (aN (zY 1 rfl) (aN (zY 0 rfl) aL aL) aL) (aN (zY 3 rfl) aL aL)) h
def QX:av:=[.m 62507 [v109,mU,jh,j 0] (.aw [v2,j 0]) (.o 44889 [v109,oc,jh,j 1] (Fx))
 (.l)]
def QY:av:=[.o 27996 [Cf,.aB true 1 [v0,v0,v0],JQ,j 0] (.aw [.bX false 1 1 [Af],j 0])]
def k15:List (Nat×av):=[(24,QX),(26,QY)]
def afw:fI prog aK T8 k15=true:=by decide+kernel
def t9:Tr av:=(.n 26 QY (.n 24 QX .l .l) .l)
def T9:List (Tr av):=t9::T8
def ahZ {O:a8} (hO:ek O) (hp:O.prog=prog) (hl:O.aK=aK):dw O T9:=by
 have h:=ahY hO hp hl;have VV:=ib hO hp hl h afw;exact dw.cons (aN (VV 1 rfl) (aN (VV 0 rfl) aL aL) aL) h
def SK:av:=[.o 7 [] (.bool true)]
def k16:List (Nat×av):=[(1,SK)]
def afx:fI prog aK T9 k16=true:=by decide+kernel
def t10:Tr av:=(.n 1 SK .l .l)
def T10:List (Tr av):=t10::T9
def afy {O:a8} (hO:ek O) (hp:O.prog=prog) (hl:O.aK=aK):dw O T10:=by
 have h:=ahZ hO hp hl;have zZ:=ib hO hp hl h afx;exact dw.cons (aN (zZ 0 rfl) aL aL) h
def holds {O:a8} (hO:ek O) (hp:O.prog=prog) (hl:O.aK=aK):dQ O 1 [] (.bool true):=Tr.qu (afy hO hp hl t10 (.head _)) (i:=1) rfl _ _ ⟨_,.head _,.inl rfl⟩
end VR
end VE
