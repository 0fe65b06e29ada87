import Derived.Test.YtpdlhopnhojpjaaGreatDoorTah
import Derived.Test.YtpdlhopnhojpjaaGreatDoorTaf
set_option linter.all false
set_option maxRecDepth 100000
namespace VE
namespace VK1
def T0:List (Tr aF):=[]
def awO {O:bl} (_hO:eU O) (_hp:O.prog=prog) (_hl:O.aS=aS):eY O T0:=eY.nil
abbrev j (n:Int):AV:= .int .i64 n
abbrev u (n:Nat):AV:= .int .u64 n
def w (l:List Nat):AV:= .aE true l.length (l.map u)
def v0:AV:= .str [48]
def v1:AV:= .str [51,47,50]
def v2:AV:= .str [49,47,50]
def v3:AV:= .str [49,47,50,52]
def v4:AV:= .str [49]
def v5:AV:= .str [49,47,49,48]
def v6:AV:= .aE true 2 [j 0,j 1]
def v7:AV:= .aE true 2 [j 2,j 3]
def v8:AV:= .aE true 3 [j 0,j 0,j 0]
def v9:AV:= .aE true 4 [j 0,j 0,j 0,j 0]
def v10:AV:= .agg [j 3,.ab,j 2,.ab]
def v11:AV:= .agg [j 1,.ab,j 1,.ab]
def v12:AV:= .agg [j 0,.ab,j 1,.ab]
def dn:AV:= .agg [j 1,.ab,j 2,.ab]
def zJ:AV:= .agg [j 1,.ab,j 24,.ab]
def Q0:AV:= .agg [j 5,.ab,j 4,.ab]
def Xp:AV:= .aE true 2 [j 3,j 2]
def Q1:AV:= .aE true 2 [j 1,j 2]
def Xq:AV:= .aE true 2 [j 1,j 0]
def Hv:AV:= .aE true 2 [j 2,j 4]
def v20:AV:= .str [49,48]
def v21:AV:= .str [53]
def v22:AV:= .agg [j 1,.ab]
def dU:AV:= .agg [j 3,.ab]
def v24:AV:= .agg [j 6,.ab]
def v25:AV:= .agg [j 2,.ab]
def bT:AV:= .agg [j 0,.ab]
def v27:AV:= .agg [j 4,.ab]
def v28:AV:= .agg [j 5,.ab]
def Hw:AV:= .agg [j 14,.ab]
def v30:AV:= .agg [j 10,.ab]
def v31:AV:= .agg [j 8,.ab]
def Hx:AV:= .agg [j (-1),.ab]
def v33:AV:= .agg [j 12,.ab]
def Hy:AV:= .agg [j 9,.ab]
def v35:AV:= .agg [j 16,.ab]
def v36:AV:= .agg [j 96,.ab]
def v37:AV:= .agg [j 100,.ab]
def v38:AV:= .agg [j 24,.ab]
def Xr:AV:= .agg [j (-2),.ab]
def v40:AV:= .agg [j 3,.ab,j 1,.ab]
def Xs:AV:= .aE true 5 [j 1,j 1,j 1,j 1,j 1]
def v42:AV:= .agg [j 2,.ab,j 1,.ab]
def oI:AV:= .agg [j 5,.ab,j 1,.ab]
def v44:AV:= .agg [j 10,.ab,j 1,.ab]
def Xt:AV:= .agg [j 8,.ab,j 1,.ab]
def v46:AV:= .agg [j 12,.ab,j 1,.ab]
def v47:AV:= .agg [j (-1),.ab,j 1,.ab]
def v48:AV:= .agg [j 0,j 0,j 1,.ab,j 2,.ab,j 1,.ab,j 2,.ab]
def v49:AV:= .az [j 1,j 0]
def Mm:AV:= .az [j 0,j 0]
def v51:AV:= .agg [j 0,j 0,j 0,.ab,j 1,.ab,j 0,.ab,j 1,.ab]
def EM:AV:= .agg [j 0,j 0,j 0,.ab,j 1,.ab,j 1,.ab,j 2,.ab]
def v53:AV:= .agg [j 1,j 0,j 1,.ab,j 2,.ab,j 0,.ab,j 1,.ab]
def Mn:AV:= .az [j 1,j 1]
def Mo:AV:= .az [j 0,j 1]
def EN:AV:= .agg [j 1,j 1,j 0,.ab,j 1,.ab,j 0,.ab,j 1,.ab]
def zK:AV:= .agg [j 1,.ab,j 2,.ab,j 1,.ab,j 1,.ab]
def se:AV:= .agg [j 0,.ab,j 1,.ab,j 1,.ab,j 2,.ab]
def v59:AV:= .agg [j 1,.ab,j 24,.ab,j 0,.ab,j 1,.ab]
def Q2:AV:= .aE false 2 [j 1,.ab,j 1,.ab,j 1,.ab,j 1,.ab]
def Mq:AV:= .aE false 4 [j 1,.ab,j 2,.ab,j 0,.ab,j 1,.ab,j 0,.ab,j 1,.ab,j 0,.ab,j 1,.ab]
def Q3:AV:= .aE true 3 [j 0,j 1,j 0]
def v63:AV:= .agg [j 0,.ab,j 1,.ab,j 0,.ab,j 1,.ab]
def Xu:AV:= .agg [j 1,.ab,j 3,.ab]
def v65:AV:= .agg [j 1,.ab,j 4,.ab]
def Hz:AV:= .agg [j 3,.ab,j 4,.ab]
def HA:AV:= .agg [j 7,.ab,j 2,.ab]
def v68:AV:= .agg [j 9,.ab,j 4,.ab]
def v69:AV:= .agg [j 1,.ab,j 8,.ab]
def v70:AV:= .agg [j 1,.ab,j 10,.ab]
def Xv:AV:= .agg [j 1,.ab,j 12,.ab]
def v72:AV:= .aE false 1 [j 1,.ab,j 1,.ab]
def v73:AV:= .aE true 1 [j 1,.ab,j 1,.ab]
def Q4:AV:= .aE true 2 [j 1,.ab,j 1,.ab,j 1,.ab,j 1,.ab]
def v75:AV:= .agg [j 6,.ab,j 1,.ab]
def v76:AV:= .agg [j 4,.ab,j 1,.ab]
def v77:AV:= .agg [j 14,.ab,j 1,.ab]
def Q5:AV:= .agg [j 1,.ab,j 1,.ab,j 0,.ab,j 1,.ab]
def v79:AV:= .agg [j 1,.ab,j 1,.ab,j 0,.ab,j 1,.ab,j 0,.ab,j 1,.ab,j 0,.ab,j 1,.ab]
def v80:AV:= .agg [j 3,.ab,j 2,.ab,j 0,.ab,j 1,.ab]
def EO:AV:= .agg [j 1,.ab,j 2,.ab,j 0,.ab,j 1,.ab]
def v82:AV:= .agg [j 1,.ab,j 2,.ab,j 1,.ab,j 2,.ab]
def v83:AV:= .agg [j 0,.ab,j 1,.ab,j 1,.ab,j 1,.ab]
def v84:AV:= .agg [j 1,.ab,j 10,.ab,j 0,.ab,j 1,.ab]
def v85:AV:= .aE false 1 [j 3,.ab,j 1,.ab]
def Xw:AV:= .agg [j 1,.ab,j 1,.ab,j 1,.ab,j 1,.ab]
def v87:AV:= .agg [v0,v0]
def Q6:AV:= .agg [v1,v0]
def Q7:AV:= .agg [v2,v2]
def nJ:AV:= .agg [v0,v4]
def v91:AV:= .agg [v4,v0]
def cu:AV:= .aE true 2 [v6,v7]
def v93:AV:= .aE true 2 [v4,v4]
def HB:AV:= .aE true 4 [v2,v0,v0,v0]
def HC:AV:= .agg [v0,v0,v0]
def zL:AV:= .agg [v0,v0,v20]
def Be:AV:= .agg [v5,v0,v0]
def Q8:AV:= .az [bT,bT]
def HE:AV:= .az [v22,bT]
def Qb:AV:= .az [v25,bT]
def Ei:AV:= .az [bT,v22]
def Lo:AV:= .aE true 2 [Hv,Hv]
def Qc:AV:= .aE true 2 [Xq,Xp]
def VR:AV:= .aE true 2 [Q1,Q1]
def v105:AV:= .aE true 3 [Q3,Q3,v8]
def Qd:AV:= .az [v1,j 0]
def v107:AV:= .aE true 1 [.str [51]]
def VS:AV:= .aE true 1 [v0,v0]
def v109:AV:= .agg [cu,v21,v4,v2,v0,v0,v2,v0]
def Lq:AV:= .aE true 1 [cu,v21,v4,v2,v0,v0,v2,v0]
def GR:AV:= .aE true 1 [v93]
def afN:aF:=[.m 40535 [v0,v0] (v87) (.m 17893 [v1,v0] (Q6) (.m 17891 [v2,v0] (.agg [v2,v0]) (.o 9861 [v3,v0] (.agg [v3,v0]))
 (.l))
 (.m 24930 [v2,v2] (Q7) (.o 18154 [v2,v4] (.agg [v2,v4]))
 (.l)))
 (.m 47574 [v0,v2] (.agg [v0,v2]) (.m 40798 [v0,v4] (nJ) (.o 40536 [v4,v0] (v91))
 (.l))
 (.o 56238 [v5,v0] (.agg [v5,v0])))]
def afO:aF:=[.o 7 [] (cu)]
def afP:aF:=[.m 51556 [v93,v93] (.bool true) (.o 30452 [HB,HB] (.bool true))
 (.l)]
def afQ:aF:=[.m 28694 [.bool false,j 12] (j 0) (.m 26327 [.bool false,j 3] (j 0) (.o 26064 [.bool false,j 2] (j 0))
 (.o 26853 [.bool false,j 5] (j 0)))
 (.m 33691 [.bool false,j 31] (j 0) (.o 28957 [.bool false,j 13] (j 0))
 (.l))]
def afR:aF:=[.m 34670 [v8] (j 0) (.m 9480 [.aE true 6 [j 0,j 0,j 0,j 0,j 0,j 0]] (j 0) (.o 3683 [.aE false 1 [j 0]] (j 0))
 (.o 27379 [.aE true 2 [j 0,j 0]] (j 0)))
 (.m 51832 [v9] (j 0) (.o 44227 [.aE true 5 [j 0,j 0,j 0,j 0,j 0]] (j 0))
 (.l)),
 .o 44227 [.aE false 5 [j 0,j 0,j 0,j 0,j 0]] (j 0)]
def afS:aF:=[.m 25801 [j 2,j 1] (j 3) (.m 25800 [j 1,j 1] (j 2) (.o 25799 [j 0,j 1] (j 1))
 (.l))
 (.m 25803 [j 4,j 1] (j 5) (.o 25802 [j 3,j 1] (j 4))
 (.l))]
def afT:aF:=[.m 51329 [j 0,j 1,.aO [cu]] (j 2) (.m 51067 [j 1,j 0,.aO [cu]] (j 1) (.o 51066 [j 0,j 0,.aO [cu]] (j 0))
 (.l))
 (.o 51330 [j 1,j 1,.aO [cu]] (j 3))]
def afU:aF:=[.m 9008 [v10] (v1) (.m 5358 [v11] (v4) (.o 5357 [v12] (v0))
 (.o 9006 [dn] (v2)))
 (.m 23741 [zJ] (v3) (.o 16306 [Q0] (.str [53,47,52]))
 (.l))]
def afV:aF:=[.m 51329 [j 0,j 1,.aO [cu]] (j 2) (.m 51067 [j 1,j 0,.aO [cu]] (j 1) (.o 51066 [j 0,j 0,.aO [cu]] (j 0))
 (.l))
 (.o 51330 [j 1,j 1,.aO [cu]] (j 3))]
def afW:aF:=[.m 51329 [j 0,j 1,.aO [cu]] (j 4) (.m 51067 [j 1,j 0,.aO [cu]] (j 1) (.o 51066 [j 0,j 0,.aO [cu]] (j 0))
 (.l))
 (.o 51330 [j 1,j 1,.aO [cu]] (j 9))]
def afX:aF:=[.m 27519 [Xp,Xp] (.bool true) (.m 26991 [Q1,Q1] (.bool true) (.o 19169 [Xq,Xq] (.bool true))
 (.l))
 (.o 35077 [Hv,Hv] (.bool true))]
def afY:aF:=[.m 48449 [HC] (.bool true) (.o 46691 [zL] (.bool false))
 (.o 64152 [Be] (.bool true))]
def afZ:aF:=[.o 45199 [v109] (j 4)]
def af0:aF:=[.o 26588 [j 0,j 4] (j 4)]
def af1:aF:=[.m 26852 [j 1,.aO [j 1000]] (.bool false) (.o 26851 [j 0,.aO [j 1000]] (.bool false))
 (.l)]
def k0:List (Nat×aF):=[(14,afN),(15,afO),(29,afP),(31,afQ),(33,afR),(38,afS),(44,afT),(46,afU),(47,afV),(48,afW),(59,afX),(68,afY),(80,afZ),(81,af0),(94,af1)]
def awP:js prog aS T0 k0=true:=by decide+kernel
def af2:aF:=[.m 26853 [j 2,.aO [j 1000]] (.bool false) (.m 26852 [j 1,.aO [j 100]] (.bool false) (.o 26851 [j 0,.aO [j 100]] (.bool false))
 (.l))
 (.m 26855 [j 4,.aO [j 1000]] (.bool false) (.o 26854 [j 3,.aO [j 1000]] (.bool false))
 (.l))]
def af3:aF:=[.m 1844 [j 3] (.fn (.f 133) [] [.aO [j 3]]) (.o 1843 [j 2] (.fn (.f 133) [] [.aO [j 2]]))
 (.l)]
def ado:aF:=[.m 38722 [v22,dU] (dU) (.m 38201 [v24,v22] (v24) (.m 38196 [v22,v22] (v22) (.m 37934 [v25,bT] (bT) (.m 37933 [v22,bT] (bT) (.o 37932 [bT,bT] (bT))
 (.l))
 (.o 38195 [bT,v22] (bT)))
 (.m 38199 [v27,v22] (v27) (.m 38198 [dU,v22] (dU) (.o 38197 [v25,v22] (v25))
 (.l))
 (.o 38200 [v28,v22] (v28))))
 (.m 38460 [v25,v25] (v27) (.m 38458 [bT,v25] (bT) (.m 38209 [Hw,v22] (Hw) (.o 38205 [v30,v22] (v30))
 (.l))
 (.o 38459 [v22,v25] (v25)))
 (.m 38474 [.agg [j (-9),.ab],v25] (.agg [j (-18),.ab]) (.o 38462 [v27,v25] (v31))
 (.o 38721 [bT,dU] (bT)))))
 (.m 40036 [Hx,v31] (.agg [j (-8),.ab]) (.m 38987 [dU,v27] (v33) (.m 38985 [v22,v27] (v27) (.m 38984 [bT,v27] (bT) (.o 38724 [dU,dU] (Hy))
 (.l))
 (.o 38986 [v25,v27] (v31)))
 (.m 39247 [bT,v28] (bT) (.m 38991 [.agg [j 7,.ab],v27] (.agg [j 28,.ab]) (.o 38988 [v27,v27] (v35))
 (.l))
 (.o 39248 [v22,v28] (v28))))
 (.m 41096 [v31,v33] (v36) (.m 40572 [v30,v30] (v37) (.m 40563 [v22,v30] (v30) (.o 40562 [bT,v30] (bT))
 (.l))
 (.o 41089 [v22,v33] (v33)))
 (.m 64232 [bT,v37] (bT) (.o 44245 [v22,v38] (v38))
 (.o 64233 [v22,v37] (v37))))),
 .m 38458 [Hx,v25] (Xr) (.o 38195 [Hx,v22] (Hx))
 (.l)]
def adp:aF:=[.m 38196 [v22,v22] (v11) (.o 38195 [bT,v22] (v12))
 (.o 38198 [dU,v22] (v40))]
def adq:aF:=[.m 40564 [v25,v30] (j (-1)) (.o 38196 [v22,v22] (j 0))
 (.o 40567 [v28,v30] (j (-1)))]
def adr:aF:=[.m 38458 [bT,v25] (v25) (.m 37934 [v25,Hx] (v22) (.m 37933 [v22,bT] (v22) (.o 37932 [bT,bT] (bT))
 (.l))
 (.o 38195 [bT,v22] (v22)))
 (.m 41100 [v33,v33] (v38) (.o 38986 [v25,v27] (v24))
 (.o 46902 [.agg [j 28,.ab],.agg [j (-18),.ab]] (v30)))]
def k1:List (Nat×aF):=[(94,af2),(96,af3),(100,ado),(101,adp),(118,adq),(119,adr)]
def awQ:js prog aS T0 k1=true:=by decide+kernel
def ads:aF:=[.m 38468 [v30,Xr] (v31) (.m 38197 [v25,v22] (dU) (.m 37935 [dU,bT] (dU) (.o 37933 [v22,Hx] (bT))
 (.o 38196 [v22,v22] (v25)))
 (.m 38461 [dU,Xr] (v22) (.o 38460 [v25,v25] (v27))
 (.l)))
 (.m 39247 [bT,v28] (v28) (.m 38984 [bT,v27] (v27) (.o 38721 [bT,dU] (dU))
 (.l))
 (.m 41626 [v33,.agg [j (-8),.ab]] (v27) (.o 40562 [bT,v30] (v30))
 (.l))),
 .o 38468 [v30,v25] (v33)]
def adt:aF:=[.m 26590 [.bool false,j 4] (j 0) (.m 26064 [.bool false,j 2] (j 0) (.o 25801 [.bool false,j 1] (j 0))
 (.l))
 (.m 28694 [.bool false,j 12] (j 0) (.o 26853 [.bool false,j 5] (j 0))
 (.l))]
def adu:aF:=[.m 51832 [v9] (j 0) (.o 27379 [.aE true 2 [j 0,j 0]] (j 0))
 (.l)]
def adv:aF:=[.m 2149 [.str [51]] (.bool true) (.m 2147 [v4] (.bool true) (.o 2146 [v0] (.bool true))
 (.o 2148 [.str [50]] (.bool true)))
 (.m 2151 [v21] (.bool true) (.o 2150 [.str [52]] (.bool true))
 (.o 14754 [v20] (.bool true)))]
def adw:aF:=[.m 26063 [j 1,j 2] (j 1) (.o 26062 [j 0,j 2] (j 0))
 (.o 26064 [j 2,j 2] (j 0)),
 .o 26062 [j (-1),j 2] (j 1)]
def adx:aF:=[.m 28694 [v25] (.bool false) (.m 28693 [v22] (.bool false) (.o 28692 [bT] (.bool false))
 (.l))
 (.m 28716 [v38] (.bool false) (.o 28695 [dU] (.bool false))
 (.l))]
def ady:aF:=[.m 38468 [v30,v25] (.az [v28,bT]) (.m 38458 [bT,v25] (Q8) (.m 38198 [dU,v22] (.az [dU,bT]) (.m 38196 [v22,v22] (HE) (.o 38195 [bT,v22] (Q8))
 (.o 38197 [v25,v22] (Qb)))
 (.m 38204 [Hy,v22] (.az [Hy,bT]) (.o 38199 [v27,v22] (.az [v27,bT]))
 (.l)))
 (.m 38462 [v27,v25] (Qb) (.m 38460 [v25,v25] (HE) (.o 38459 [v22,v25] (Ei))
 (.l))
 (.m 38466 [v31,v25] (.az [v27,bT]) (.o 38464 [v24,v25] (.az [dU,bT]))
 (.l))))
 (.m 38987 [dU,v27] (.az [bT,dU]) (.m 38984 [bT,v27] (Q8) (.m 38725 [v27,dU] (.az [v22,v22]) (.o 38472 [Hw,v25] (.az [.agg [j 7,.ab],bT]))
 (.l))
 (.m 38986 [v25,v27] (.az [bT,v25]) (.o 38985 [v22,v27] (Ei))
 (.l)))
 (.m 38993 [Hy,v27] (.az [v25,v22]) (.m 38990 [v24,v27] (.az [v22,v25]) (.o 38988 [v27,v27] (HE))
 (.l))
 (.m 40046 [v30,v31] (.az [v22,v25]) (.o 38998 [Hw,v27] (.az [dU,v25]))
 (.l))))]
def k2:List (Nat×aF):=[(119,ads),(124,adt),(125,adu),(129,adv),(134,adw),(151,adx),(164,ady)]
def awR:js prog aS T0 k2=true:=by decide+kernel
def adz:aF:=[.m 40037 [v22,v31] (Ei) (.m 38722 [v22,dU] (Ei) (.m 38207 [v33,v22] (.az [v33,bT]) (.m 38205 [v30,v22] (.az [v30,bT]) (.o 38203 [v31,v22] (.az [v31,bT]))
 (.l))
 (.m 38461 [dU,v25] (.az [v22,v22]) (.o 38219 [v38,v22] (.az [v38,bT]))
 (.l)))
 (.m 39252 [v28,v28] (HE) (.m 39080 [v36,v27] (.az [v38,bT]) (.o 38724 [dU,dU] (HE))
 (.l))
 (.m 39518 [v31,v24] (.az [v22,v25]) (.o 39257 [v30,v28] (Qb))
 (.l))))
 (.m 41089 [v22,v33] (Ei) (.m 40060 [v38,v31] (.az [dU,bT]) (.m 40052 [v35,v31] (Qb) (.o 40042 [v24,v31] (.az [bT,v24]))
 (.l))
 (.m 40567 [v28,v30] (.az [bT,v28]) (.o 40563 [v22,v30] (Ei))
 (.l)))
 (.m 44245 [v22,v38] (Ei) (.m 44244 [bT,v38] (Q8) (.o 42164 [v38,v35] (.az [v22,v31]))
 (.l))
 (.m 63184 [v27,v36] (.az [bT,v27]) (.o 44268 [v38,v38] (HE))
 (.l))))]
def k3:List (Nat×aF):=[(164,adz)]
def awS:js prog aS T0 k3=true:=by decide+kernel
def t1:Tr aF:=(.n 81 af0 (.n 44 afT (.n 31 afQ (.n 15 afO (.n 14 afN .l .l) (.n 29 afP .l .l)) (.n 38 afS (.n 33 afR .l .l) .l)) (.n 59 afX (.n 47 afV (.n 46 afU .l .l) (.n 48 afW .l .l)) (.n 80 afZ (.n 68 afY .l .l) .l))) (.n 124 adt (.n 101 adp (.n 96 af3 (.n 94 (af1++af2) .l .l) (.n 100 ado .l .l)) (.n 119 (adr++ads) (.n 118 adq .l .l) .l)) (.n 134 adw (.n 129 adv (.n 125 adu .l .l) .l) (.n 164 (ady++adz) (.n 151 adx .l .l) .l))))
def T1:List (Tr aF):=t1::T0
def awT {O:bl} (hO:eU O) (hp:O.prog=prog) (hl:O.aS=aS):eY O T1:=by
 have h:=awO hO hp hl;have c0:=lO hO hp hl h awP;have c1:=lO hO hp hl h awQ;have c2:=lO hO hp hl h awR;have c3:=lO hO hp hl h awS;exact eY.cons (aN (c0 13 rfl) (aN (c0 6 rfl) (aN (c0 3 rfl) (aN (c0 1 rfl) (aN (c0 0 rfl) aL aL) (aN (c0 2 rfl) aL aL)) (aN (c0 5 rfl) (aN (c0 4 rfl) aL aL) aL)) (aN (c0 10 rfl) (aN (c0 8 rfl) (aN (c0 7 rfl) aL aL) (aN (c0 9 rfl) aL aL)) (aN (c0 12 rfl) (aN (c0 11 rfl) aL aL) aL))) (aN (c2 1 rfl) (aN (c1 3 rfl) (aN (c1 1 rfl) (aN (.cX (c0 14 rfl) (c1 0 rfl)) aL aL) (aN (c1 2 rfl) aL aL)) (aN (.cX (c1 5 rfl) (c2 0 rfl)) (aN (c1 4 rfl) aL aL) aL)) (aN (c2 4 rfl) (aN (c2 3 rfl) (aN (c2 2 rfl) aL aL) aL) (aN (.cX (c2 6 rfl) (c3 0 rfl)) (aN (c2 5 rfl) aL aL) aL)))) h
def af4:aF:=[.m 47931 [Lo,Lo] (.bool true) (.o 9899 [Qc,Qc] (.bool true))
 (.l),
 .o 9899 [VR,VR] (.bool true)]
def af5:aF:=[.o 7 [] (v109)]
def af6:aF:=[.o 58093 [.aE false 1 [HB],.aE true 1 [HB]] (.bool true)]
def af7:aF:=[.m 43068 [j 1,j 1,j 2147483646] (j 0) (.m 25938 [j 2,j 1,j 16] (j 0) (.o 11651 [j 1,j 0,j 1000] (j 0))
 (.l))
 (.m 55041 [j 1,j (-999999999),j 999999999] (j 0) (.o 55040 [j 0,j (-999999999),j 999999999] (j 0))
 (.l))]
def af8:aF:=[.m 25649 [j 0,Xs,.fn (.f 38) [] []] (j 5) (.o 12396 [j 0,.aE false 1 [j 4],.fn (.f 81) [] []] (j 4))
 (.l)]
def af9:aF:=[.m 36730 [v11,v11] (v11) (.m 36468 [v42,v12] (v12) (.m 36467 [v11,v12] (v12) (.o 36466 [v12,v12] (v12))
 (.l))
 (.o 36729 [v12,v11] (v12)))
 (.m 37256 [v11,v40] (v40) (.m 37255 [v12,v40] (v12) (.o 36992 [v12,v42] (v12))
 (.l))
 (.o 37781 [v12,oI] (v12)))]
def aga:aF:=[.m 31055 [Be,oI] (.bool true) (.o 15352 [HC,oI] (.bool true))
 (.l)]
def agb:aF:=[.m 39101 [oI,v44] (j (-1)) (.o 39098 [v42,v44] (j (-1)))
 (.l)]
def agc:aF:=[.m 36730 [v11,v11] (v42) (.m 36469 [v40,v12] (v40) (.m 36467 [v11,v12] (v11) (.o 36466 [v12,v12] (v12))
 (.l))
 (.o 36729 [v12,v11] (v11)))
 (.m 37002 [v44,.agg [j (-2),.ab,j 1,.ab]] (Xt) (.o 36731 [v42,v11] (v40))
 (.o 37255 [v12,v40] (v40))),
 .m 37002 [v44,v42] (v46) (.o 36467 [v11,v47] (v12))
 (.l)]
def agd:aF:=[.o 4689 [Lq,.fn (.f 80) [] []] (.bV false 1 1 [j 4])]
def age:aF:=[.m 2150 [.str [52]] (j 0) (.m 2147 [v4] (j 0) (.o 2146 [v0] (j 0))
 (.o 2149 [.str [51]] (j 0)))
 (.m 14754 [v20] (j 0) (.o 2151 [v21] (j 0))
 (.l))]
def agf:aF:=[.m 5504 [cu,j 1,j 2] (j 1) (.m 2119 [cu,j 2,j 1] (j 2) (.m 1856 [cu,j 1,j 1] (j 3) (.o 1593 [cu,j (-1),j 1] (j 3))
 (.l))
 (.o 5241 [cu,j (-1),j 2] (j 1)))
 (.m 63729 [cu,j 1,j 0] (j 1) (.m 63466 [cu,j (-1),j 0] (j 1) (.o 5767 [cu,j 2,j 2] (j 0))
 (.l))
 (.o 63992 [cu,j 2,j 0] (j 0))),
 .m 63466 [cu,j 0,j 0] (j 0) (.m 5241 [cu,j 0,j 2] (j 0) (.o 1593 [cu,j 0,j 1] (j 2))
 (.l))
 (.m 63992 [cu,j 2,j (-1)] (j 2) (.o 63729 [cu,j 1,j (-1)] (j 3))
 (.l)),
 .o 63466 [cu,j (-1),j (-1)] (j 3),
 .o 63466 [cu,j 0,j (-1)] (j 2)]
def adA:aF:=[.m 62435 [v48,j 1,j 2] (v49) (.o 62172 [v48,j 0,j 2] (Mm))
 (.l)]
def k4:List (Nat×aF):=[(21,af4),(23,af5),(28,af6),(34,af7),(37,af8),(49,af9),(63,aga),(71,agb),(74,agc),(79,agd),(86,age),(97,agf),(105,adA)]
def awU:js prog aS T1 k4=true:=by decide+kernel
def adB:aF:=[.m 60093 [v51,j 1,j 2] (v49) (.m 51383 [EM,j 0,j 2] (Mm) (.m 5625 [v53,j 2,j 2] (Mn) (.m 5362 [v53,j 1,j 2] (Mm) (.o 5099 [v53,j 0,j 2] (v49))
 (.l))
 (.o 5888 [v53,j 3,j 2] (Mo)))
 (.m 52172 [EM,j 3,j 2] (Mn) (.m 51909 [EM,j 2,j 2] (Mo) (.o 51646 [EM,j 1,j 2] (v49))
 (.l))
 (.o 59830 [v51,j 0,j 2] (Mm))))
 (.m 60620 [EN,j 2,j 2] (v49) (.m 60357 [EN,j 1,j 2] (Mo) (.m 60356 [v51,j 2,j 2] (Mo) (.o 60094 [EN,j 0,j 2] (Mn))
 (.l))
 (.o 60619 [v51,j 3,j 2] (Mn)))
 (.m 62698 [v48,j 2,j 2] (Mo) (.o 60883 [EN,j 3,j 2] (Mm))
 (.o 62961 [v48,j 3,j 2] (Mn))))]
def adC:aF:=[.m 9006 [dn] (.bool false) (.m 5358 [v11] (.bool false) (.o 5357 [v12] (.bool false))
 (.l))
 (.m 23741 [zJ] (.bool false) (.o 9008 [v10] (.bool false))
 (.l))]
def adD:aF:=[.m 44894 [zK] (.agg [v2,v4]) (.o 14255 [se] (.agg [v0,v2]))
 (.o 52488 [v59] (.agg [v3,v0]))]
def adE:aF:=[.m 41248 [Q2] (.bV true 1 2 [v4,v4]) (.o 19556 [Mq] (.bV true 1 4 [v2,v0,v0,v0]))
 (.l)]
def adF:aF:=[.m 38990 [v24,v27] (v25) (.m 38724 [dU,dU] (dU) (.m 38461 [dU,v25] (v22) (.m 38459 [v22,v25] (v22) (.o 38458 [bT,v25] (v25))
 (.o 38460 [v25,v25] (v25)))
 (.m 38722 [v22,dU] (v22) (.o 38462 [v27,v25] (v25))
 (.l)))
 (.m 38986 [v25,v27] (v25) (.m 38985 [v22,v27] (v22) (.o 38984 [bT,v27] (v27))
 (.l))
 (.m 38988 [v27,v27] (v27) (.o 38987 [dU,v27] (v22))
 (.l))))
 (.m 40567 [v28,v30] (v28) (.m 40042 [v24,v31] (v25) (.m 38998 [Hw,v27] (v25) (.o 38993 [Hy,v27] (v22))
 (.o 40037 [v22,v31] (v22)))
 (.m 40563 [v22,v30] (v22) (.o 40046 [v30,v31] (v25))
 (.l)))
 (.m 44244 [bT,v38] (v38) (.m 42164 [v38,v35] (v31) (.o 41089 [v22,v33] (v22))
 (.l))
 (.m 63184 [v27,v36] (v27) (.o 44245 [v22,v38] (v22))
 (.l))))]
def adG:aF:=[.m 53443 [Hv,.fn (.f 94) [] [.aO [j 1000]]] (j (-1)) (.m 53180 [v7,.fn (.f 94) [] [.aO [j 1000]]] (j (-1)) (.o 52652 [v6,.fn (.f 94) [] [.aO [j 1000]]] (j (-1)))
 (.l))
 (.m 59943 [Q3,.fn (.f 94) [] [.aO [j 100]]] (j (-1)) (.o 59680 [v8,.fn (.f 94) [] [.aO [j 100]]] (j (-1)))
 (.l))]
def adH:aF:=[.m 9006 [dn] (bT) (.o 5357 [v12] (bT))
 (.l)]
def k5:List (Nat×aF):=[(105,adB),(107,adC),(114,adD),(123,adE),(130,adF),(132,adG),(149,adH)]
def awV:js prog aS T1 k5=true:=by decide+kernel
def adI:aF:=[.m 9008 [v10] (v22) (.o 5358 [v11] (v22))
 (.l)]
def adJ:aF:=[.m 52923 [v30,j 2] (v37) (.o 52660 [v30,j 1] (v30))
 (.l)]
def k6:List (Nat×aF):=[(149,adI),(155,adJ)]
def awW:js prog aS T1 k6=true:=by decide+kernel
def t2:Tr aF:=(.n 86 age (.n 49 af9 (.n 28 af6 (.n 23 af5 (.n 21 af4 .l .l) .l) (.n 37 af8 (.n 34 af7 .l .l) .l)) (.n 74 agc (.n 71 agb (.n 63 aga .l .l) .l) (.n 79 agd .l .l))) (.n 123 adE (.n 107 adC (.n 105 (adA++adB) (.n 97 agf .l .l) .l) (.n 114 adD .l .l)) (.n 149 (adH++adI) (.n 132 adG (.n 130 adF .l .l) .l) (.n 155 adJ .l .l))))
def T2:List (Tr aF):=t2::T1
def awX {O:bl} (hO:eU O) (hp:O.prog=prog) (hl:O.aS=aS):eY O T2:=by
 have h:=awT hO hp hl;have c4:=lO hO hp hl h awU;have c5:=lO hO hp hl h awV;have c6:=lO hO hp hl h awW;exact eY.cons (aN (c4 10 rfl) (aN (c4 5 rfl) (aN (c4 2 rfl) (aN (c4 1 rfl) (aN (c4 0 rfl) aL aL) aL) (aN (c4 4 rfl) (aN (c4 3 rfl) aL aL) aL)) (aN (c4 8 rfl) (aN (c4 7 rfl) (aN (c4 6 rfl) aL aL) aL) (aN (c4 9 rfl) aL aL))) (aN (c5 3 rfl) (aN (c5 1 rfl) (aN (.cX (c4 12 rfl) (c5 0 rfl)) (aN (c4 11 rfl) aL aL) aL) (aN (c5 2 rfl) aL aL)) (aN (.cX (c5 6 rfl) (c6 0 rfl)) (aN (c5 5 rfl) (aN (c5 4 rfl) aL aL) aL) (aN (c6 1 rfl) aL aL)))) h
def agh:aF:=[.o 1842 [j 1] (j 0)]
def agi:aF:=[.m 45155 [j 0,j 1,.aO [v105],.aO [cu],.aO [j 1]] (j 2) (.m 44893 [j 1,j 0,.aO [v105],.aO [cu],.aO [j 1]] (j 4) (.o 44892 [j 0,j 0,.aO [v105],.aO [cu],.aO [j 1]] (j 2))
 (.l))
 (.o 45156 [j 1,j 1,.aO [v105],.aO [cu],.aO [j 1]] (j 4))]
def agj:aF:=[.m 36730 [v11,v11] (v12) (.m 36467 [v11,v12] (v11) (.o 36466 [v12,v12] (v12))
 (.l))
 (.o 37002 [v44,v42] (Xt))]
def agk:aF:=[.m 1842 [j 1] (j 0) (.o 1841 [j 0] (j 0))
 (.l)]
def agl:aF:=[.m 45155 [j 0,j 1,.aO [cu],.aO [j 1],.aO [j 0]] (j 1) (.m 44893 [j 1,j 0,.aO [cu],.aO [j 1],.aO [j 0]] (j 1) (.o 44892 [j 0,j 0,.aO [cu],.aO [j 1],.aO [j 0]] (j 1))
 (.l))
 (.o 45156 [j 1,j 1,.aO [cu],.aO [j 1],.aO [j 0]] (j 1))]
def agm:aF:=[.m 42377 [v91] (j 0) (.o 42376 [v87] (j 0))
 (.o 42639 [nJ] (j 0))]
def agn:aF:=[.m 9008 [v10] (Qd) (.o 9006 [dn] (.az [v2,j 0]))
 (.l)]
def ago:aF:=[.m 45155 [j 0,j 1,.aO [cu],.aO [j 1],.aO [j 0]] (j 3) (.m 44893 [j 1,j 0,.aO [cu],.aO [j 1],.aO [j 0]] (j 0) (.o 44892 [j 0,j 0,.aO [cu],.aO [j 1],.aO [j 0]] (j 1))
 (.l))
 (.o 45156 [j 1,j 1,.aO [cu],.aO [j 1],.aO [j 0]] (j 2))]
def agp:aF:=[.m 65476 [v63,v11] (v63) (.o 1007 [v63,oI] (v63))
 (.l)]
def agq:aF:=[.o 29001 [v107,.fn (.f 86) [] []] (.bV false 1 1 [j 0])]
def agr:aF:=[.m 53443 [Hv,.fn (.f 94) [] [.aO [j 1000]]] (.bool false) (.m 53180 [v7,.fn (.f 94) [] [.aO [j 1000]]] (.bool false) (.o 52652 [v6,.fn (.f 94) [] [.aO [j 1000]]] (.bool false))
 (.l))
 (.m 59943 [Q3,.fn (.f 94) [] [.aO [j 100]]] (.bool false) (.o 59680 [v8,.fn (.f 94) [] [.aO [j 100]]] (.bool false))
 (.l))]
def adK:aF:=[.m 38990 [v24,v27] (v10) (.m 38724 [dU,dU] (v11) (.m 38461 [dU,v25] (v10) (.m 38459 [v22,v25] (dn) (.o 38458 [bT,v25] (v12))
 (.o 38460 [v25,v25] (v11)))
 (.m 38722 [v22,dU] (Xu) (.o 38462 [v27,v25] (v42))
 (.l)))
 (.m 38986 [v25,v27] (dn) (.m 38985 [v22,v27] (v65) (.o 38984 [bT,v27] (v12))
 (.l))
 (.m 38988 [v27,v27] (v11) (.o 38987 [dU,v27] (Hz))
 (.l))))
 (.m 40567 [v28,v30] (dn) (.m 40042 [v24,v31] (Hz) (.m 38998 [Hw,v27] (HA) (.o 38993 [Hy,v27] (v68))
 (.o 40037 [v22,v31] (v69)))
 (.m 40563 [v22,v30] (v70) (.o 40046 [v30,v31] (Q0))
 (.l)))
 (.m 44244 [bT,v38] (v12) (.m 42164 [v38,v35] (v10) (.o 41089 [v22,v33] (Xv))
 (.l))
 (.m 63184 [v27,v36] (zJ) (.o 44245 [v22,v38] (zJ))
 (.l))))]
def adL:aF:=[.m 47498 [v12,.aE false 4 [j 0,.ab,j 1,.ab,j 0,.ab,j 1,.ab,j 1,.ab,j 1,.ab,j 0,.ab,j 1,.ab],.fn (.f 74) [] []] (v11) (.o 20032 [v12,.aE false 4 [j 3,.ab,j 1,.ab,j 0,.ab,j 1,.ab,j 0,.ab,j 1,.ab,j 0,.ab,j 1,.ab],.fn (.f 74) [] []] (v40))
 (.l)]
def adM:aF:=[.o 2147 [v4] (v22)]
def k7:List (Nat×aF):=[(36,agh),(41,agi),(50,agj),(51,agk),(52,agl),(53,agm),(57,agn),(58,ago),(75,agp),(85,agq),(95,agr),(101,adK),(106,adL),(110,adM)]
def awY:js prog aS T2 k7=true:=by decide+kernel
def adN:aF:=[.m 2150 [.str [52]] (v27) (.m 2148 [.str [50]] (v25) (.o 2146 [v0] (bT))
 (.o 2149 [.str [51]] (dU)))
 (.m 14754 [v20] (v30) (.o 2151 [v21] (v28))
 (.l))]
def adO:aF:=[.o 25238 [v63,v63] (v63)]
def adP:aF:=[.m 44894 [zK] (.bool false) (.o 14255 [se] (.bool false))
 (.o 52488 [v59] (.bool false))]
def adQ:aF:=[.m 36994 [v72,v73] (v11) (.o 11145 [Q4,Q4] (v42))
 (.l)]
def adR:aF:=[.m 44566 [Mq,.fn (.f 107) [] []] (j (-1)) (.o 737 [Q2,.fn (.f 107) [] []] (j (-1)))
 (.l)]
def adS:aF:=[.o 42642 [v93] (j 0)]
def k8:List (Nat×aF):=[(110,adN),(112,adO),(113,adP),(131,adQ),(160,adR),(161,adS)]
def awZ:js prog aS T2 k8=true:=by decide+kernel
def t3:Tr aF:=(.n 85 agq (.n 52 agl (.n 50 agj (.n 41 agi (.n 36 agh .l .l) .l) (.n 51 agk .l .l)) (.n 58 ago (.n 57 agn (.n 53 agm .l .l) .l) (.n 75 agp .l .l))) (.n 112 adO (.n 106 adL (.n 101 adK (.n 95 agr .l .l) .l) (.n 110 (adM++adN) .l .l)) (.n 160 adR (.n 131 adQ (.n 113 adP .l .l) .l) (.n 161 adS .l .l))))
def T3:List (Tr aF):=t3::T2
def aw0 {O:bl} (hO:eU O) (hp:O.prog=prog) (hl:O.aS=aS):eY O T3:=by
 have h:=awX hO hp hl;have c7:=lO hO hp hl h awY;have c8:=lO hO hp hl h awZ;exact eY.cons (aN (c7 9 rfl) (aN (c7 4 rfl) (aN (c7 2 rfl) (aN (c7 1 rfl) (aN (c7 0 rfl) aL aL) aL) (aN (c7 3 rfl) aL aL)) (aN (c7 7 rfl) (aN (c7 6 rfl) (aN (c7 5 rfl) aL aL) aL) (aN (c7 8 rfl) aL aL))) (aN (c8 1 rfl) (aN (c7 12 rfl) (aN (c7 11 rfl) (aN (c7 10 rfl) aL aL) aL) (aN (.cX (c7 13 rfl) (c8 0 rfl)) aL aL)) (aN (c8 4 rfl) (aN (c8 3 rfl) (aN (c8 2 rfl) aL aL) aL) (aN (c8 5 rfl) aL aL)))) h
def ags:aF:=[.m 57092 [cu,j 1000] (j 0) (.o 28943 [v105,j 100] (j 0))
 (.o 61531 [Lo,j 1000] (j 0))]
def agt:aF:=[.o 56899 [Xs,.fn (.f 36) [] []] (.bV false 1 5 [j 0,j 0,j 0,j 0,j 0])]
def agu:aF:=[.o 26853 [j 2,.fn (.f 58) [] [.aO [cu],.aO [j 1],.aO [j 0]]] (Qc),
 .o 26853 [j 2,.fn (.f 41) [] [.aO [v105],.aO [cu],.aO [j 1]]] (Lo)]
def agv:aF:=[.m 32083 [v75,v65] (v10) (.m 17515 [v10,v10] (v68) (.m 13339 [v11,dn] (dn) (.m 13338 [v12,dn] (v12) (.o 5093 [v70,oI] (dn))
 (.l))
 (.m 16987 [dn,dn] (v65) (.o 13342 [v76,dn] (v42))
 (.l)))
 (.m 22905 [v11,zJ] (zJ) (.m 22904 [v12,zJ] (v12) (.o 22778 [oI,v70] (dn))
 (.l))
 (.o 32081 [v76,v65] (v11))))
 (.m 47411 [v65,v12] (v12) (.m 40378 [dn,v11] (dn) (.m 40115 [dn,v12] (v12) (.o 32091 [v77,v65] (HA))
 (.l))
 (.m 40904 [dn,v40] (v10) (.o 40641 [dn,v42] (v11))
 (.l)))
 (.m 48200 [v65,v40] (Hz) (.m 47937 [v65,v42] (dn) (.o 47674 [v65,v11] (v65))
 (.l))
 (.o 55471 [v40,Xu] (v11))))]
def agw:aF:=[.m 2151 [v21] (oI) (.m 2149 [.str [51]] (v40) (.m 2147 [v4] (v11) (.o 2146 [v0] (v12))
 (.l))
 (.o 2150 [.str [52]] (v76)))
 (.m 45023 [v2] (dn) (.m 17849 [v5] (v70) (.o 14754 [v20] (v44))
 (.l))
 (.o 45025 [v1] (v10)))]
def agx:aF:=[.m 44894 [zK] (.az [.agg [v2,v4],j 0]) (.o 14255 [se] (.az [.agg [v0,v2],j 0]))
 (.o 52488 [v59] (.az [.agg [v3,v0],j 0]))]
def agy:aF:=[.o 25239 [Q5,v63] (Q5)]
def agz:aF:=[.m 5365 [Xt] (v69) (.m 5360 [v40] (Xu) (.o 5359 [v42] (dn))
 (.o 5361 [v76] (v65)))
 (.m 5369 [v46] (Xv) (.o 5367 [v44] (v70))
 (.l))]
def agA:aF:=[.m 32077 [v12,v65] (v65) (.m 13338 [v12,dn] (dn) (.m 13076 [v11,.agg [j (-1),.ab,j 2,.ab]] (dn) (.o 1265 [v69,.agg [j (-1),.ab,j 12,.ab]] (zJ))
 (.l))
 (.m 24283 [v65,dn] (Hz) (.o 16987 [dn,dn] (v11))
 (.l)))
 (.m 40117 [v10,v47] (dn) (.m 40115 [dn,v12] (dn) (.o 39677 [HA,.agg [j (-9),.ab,j 4,.ab]] (Q0))
 (.l))
 (.o 43550 [Hz,Hz] (v10)))]
def agB:aF:=[.m 45023 [v2] (j 0) (.o 17849 [v5] (j 0))
 (.o 45025 [v1] (j 0))]
def agC:aF:=[.o 30369 [v72,.aO [v73]] (v11)]
def k9:List (Nat×aF):=[(32,ags),(35,agt),(40,agu),(49,agv),(62,agw),(65,agx),(72,agy),(73,agz),(74,agA),(86,agB),(91,agC)]
def aw1:js prog aS T3 k9=true:=by decide+kernel
def aco:aF:=[.m 21813 [EN] (v79) (.o 21549 [v51] (v79))
 (.l)]
def acp:aF:=[.o 1866 [VS,.fn (.f 53) [] []] (.bV false 1 1 [j 0])]
def acq:aF:=[.m 44566 [Mq,.fn (.f 107) [] []] (.bool false) (.o 737 [Q2,.fn (.f 107) [] []] (.bool false))
 (.l)]
def acr:aF:=[.o 2131 [v93,.aO [GR]] (j 0)]
def k10:List (Nat×aF):=[(104,aco),(121,acp),(122,acq),(126,acr)]
def at3:js prog aS T3 k10=true:=by decide+kernel
def t4:Tr aF:=(.n 73 agz (.n 49 agv (.n 35 agt (.n 32 ags .l .l) (.n 40 agu .l .l)) (.n 65 agx (.n 62 agw .l .l) (.n 72 agy .l .l))) (.n 104 aco (.n 86 agB (.n 74 agA .l .l) (.n 91 agC .l .l)) (.n 122 acq (.n 121 acp .l .l) (.n 126 acr .l .l))))
def T4:List (Tr aF):=t4::T3
def aw2 {O:bl} (hO:eU O) (hp:O.prog=prog) (hl:O.aS=aS):eY O T4:=by
 have h:=aw0 hO hp hl;have c9:=lO hO hp hl h aw1;have Q9:=lO hO hp hl h at3;exact eY.cons (aN (c9 7 rfl) (aN (c9 3 rfl) (aN (c9 1 rfl) (aN (c9 0 rfl) aL aL) (aN (c9 2 rfl) aL aL)) (aN (c9 5 rfl) (aN (c9 4 rfl) aL aL) (aN (c9 6 rfl) aL aL))) (aN (Q9 0 rfl) (aN (c9 9 rfl) (aN (c9 8 rfl) aL aL) (aN (c9 10 rfl) aL aL)) (aN (Q9 2 rfl) (aN (Q9 1 rfl) aL aL) (aN (Q9 3 rfl) aL aL)))) h
def agD:aF:=[.o 32481 [cu] (j 0)]
def agE:aF:=[.o 31824 [j 1,j 2,Xs] (.az [VR,j 0])]
def adT:aF:=[.m 37836 [HA,v68] (Q0) (.m 13339 [v11,dn] (dn) (.o 1528 [v69,Xv] (zJ))
 (.l))
 (.m 40380 [v10,v11] (dn) (.o 40115 [dn,v12] (dn))
 (.l))]
def adU:aF:=[.m 26771 [Q7] (j 0) (.m 19734 [Q6] (j 0) (.o 19732 [.agg [v2,v0]] (j 0))
 (.l))
 (.o 58079 [.agg [v5,v0]] (j 0))]
def adV:aF:=[.m 42376 [v87] (v63) (.m 19734 [Q6] (v80) (.o 19732 [.agg [v2,v0]] (EO))
 (.o 26771 [Q7] (v82)))
 (.m 42639 [nJ] (v83) (.o 42377 [v91] (Q5))
 (.o 58079 [.agg [v5,v0]] (v84)))]
def adW:aF:=[.o 44745 [EN,cu] (v40)]
def adX:aF:=[.m 25846 [v21,j 0] (j 0) (.m 25845 [.str [52],j 0] (j 0) (.o 25841 [v0,j 0] (j 0))
 (.l))
 (.m 38449 [v20,j 0] (j 0) (.o 26105 [v4,j 1] (j 0))
 (.l))]
def adY:aF:=[.o 13594 [zL,oI] (.bool true)]
def adZ:aF:=[.m 37522 [v76,v76] (v11) (.m 36996 [v76,v42] (v42) (.m 36993 [v11,v42] (dn) (.o 36992 [v12,v42] (v12))
 (.l))
 (.o 37258 [v40,v40] (v11)))
 (.m 37532 [v77,v76] (HA) (.o 37524 [v75,v76] (v10))
 (.o 39101 [oI,v44] (dn)))]
def ad0:aF:=[.m 33840 [v84,oI] (EO) (.m 3604 [EO,v11] (EO) (.o 3341 [EO,v12] (v63))
 (.o 10745 [zK,v11] (zK)))
 (.m 49226 [v83,dn] (se) (.o 45627 [se,v11] (se))
 (.o 51652 [Q5,zJ] (v59)))]
def ad1:aF:=[.o 42377 [VS] (j 0)]
def ad2:aF:=[.m 41248 [Q2] (.az [v93,j 0]) (.o 19556 [Mq] (.az [HB,j 0]))
 (.l)]
def ad3:aF:=[.m 42642 [v93] (.bV true 4 2 [j 1,.ab,j 1,.ab,j 1,.ab,j 1,.ab]) (.o 3991 [v107] (.bV true 4 1 [j 3,.ab,j 1,.ab]))
 (.l)]
def ad4:aF:=[.o 2579 [.aE false 1 [Q4],.aO [v4]] (.bV false 1 1 [v85])]
def ad5:aF:=[.o 63847 [.aE true 2 [v72,v72],.fn (.f 91) [] [.aO [v73]]] (.bV false 4 2 [j 1,.ab,j 1,.ab,j 1,.ab,j 1,.ab])]
def acs:aF:=[.m 61636 [v12,Mq,.fn (.f 74) [] []] (dn) (.o 47668 [v12,.aE false 4 [j 0,.ab,j 1,.ab,j 1,.ab,j 4,.ab,j 1,.ab,j 2,.ab,j 3,.ab,j 4,.ab],.fn (.f 74) [] []] (v10))
 (.l)]
def acu:aF:=[.m 12900 [zK,EO] (Xw) (.m 9251 [v83,EO] (zK) (.o 5389 [se,v63] (se))
 (.l))
 (.o 36028 [zK,v63] (zK))]
def acv:aF:=[.o 3973 [GR,.fn (.f 126) [] [.aO [GR]]] (j 0)]
def k11:List (Nat×aF):=[(4,agD),(5,agE),(50,adT),(53,adU),(54,adV),(56,adW),(61,adX),(63,adY),(70,adZ),(75,ad0),(78,ad1),(83,ad2),(88,ad3),(89,ad4),(92,ad5),(106,acs),(112,acu),(127,acv)]
def at4:js prog aS T4 k11=true:=by decide+kernel
def t5:Tr aF:=(.n 75 ad0 (.n 54 adV (.n 50 adT (.n 5 agE (.n 4 agD .l .l) .l) (.n 53 adU .l .l)) (.n 63 adY (.n 61 adX (.n 56 adW .l .l) .l) (.n 70 adZ .l .l))) (.n 92 ad5 (.n 88 ad3 (.n 83 ad2 (.n 78 ad1 .l .l) .l) (.n 89 ad4 .l .l)) (.n 112 acu (.n 106 acs .l .l) (.n 127 acv .l .l))))
def T5:List (Tr aF):=t5::T4
def aw3 {O:bl} (hO:eU O) (hp:O.prog=prog) (hl:O.aS=aS):eY O T5:=by
 have h:=aw2 hO hp hl;have ja:=lO hO hp hl h at4;exact eY.cons (aN (ja 9 rfl) (aN (ja 4 rfl) (aN (ja 2 rfl) (aN (ja 1 rfl) (aN (ja 0 rfl) aL aL) aL) (aN (ja 3 rfl) aL aL)) (aN (ja 7 rfl) (aN (ja 6 rfl) (aN (ja 5 rfl) aL aL) aL) (aN (ja 8 rfl) aL aL))) (aN (ja 14 rfl) (aN (ja 12 rfl) (aN (ja 11 rfl) (aN (ja 10 rfl) aL aL) aL) (aN (ja 13 rfl) aL aL)) (aN (ja 16 rfl) (aN (ja 15 rfl) aL aL) (aN (ja 17 rfl) aL aL)))) h
def agF:aF:=[.o 63249 [cu,v105] (.az [Lo,j 0])]
def ad6:aF:=[.o 63729 [cu,j 1,j 0] (.az [Qc,j 0])]
def ad7:aF:=[.o 26853 [j 2,.fn (.f 44) [] [.aO [cu]]] (v10),
 .o 26853 [j 2,.fn (.f 47) [] [.aO [cu]]] (v10),
 .o 26853 [j 2,.fn (.f 48) [] [.aO [cu]]] (HA),
 .o 26853 [j 2,.fn (.f 52) [] [.aO [cu],.aO [j 1],.aO [j 0]]] (v11)]
def ad8:aF:=[.m 48449 [HC] (j 0) (.o 46691 [zL] (j 0))
 (.o 64152 [Be] (j 0))]
def ad9:aF:=[.m 13425 [HC,oI,v87] (v63) (.o 5737 [Be,oI,nJ] (zK))
 (.o 53797 [zL,oI,nJ] (se))]
def aea:aF:=[.o 44484 [GR] (j 0)]
def aeb:aF:=[.o 3973 [GR,.fn (.f 88) [] []] (.bV false 1 1 [Q4])]
def aec:aF:=[.o 39364 [.aE false 1 [v85],.aE true 1 [j 3,.ab,j 1,.ab]] (.bV true 4 1 [j 1,.ab,j 1,.ab])]
def acw:aF:=[.m 33227 [dn,j 2] (.az [j 0,dn]) (.m 29579 [v11,j 2] (.az [j 1,v12]) (.o 29578 [v12,j 2] (.az [j 0,v12]))
 (.l))
 (.o 33229 [v10,j 2] (.az [j 1,dn]))]
def acx:aF:=[.m 23891 [v48] (.agg [j 1,.ab,j 4,.ab,j 1,.ab,j 4,.ab,j 1,.ab,j 4,.ab,j 1,.ab,j 4,.ab]) (.o 13102 [EM] (.agg [j 1,.ab,j 2,.ab,j 0,.ab,j 1,.ab,j 1,.ab,j 2,.ab,j 0,.ab,j 1,.ab]))
 (.o 32339 [v53] (.agg [j 1,.ab,j 2,.ab,j 1,.ab,j 2,.ab,j 0,.ab,j 1,.ab,j 0,.ab,j 1,.ab]))]
def acy:aF:=[.o 45199 [v109] (j 0)]
def k12:List (Nat×aF):=[(9,agF),(20,ad6),(45,ad7),(60,ad8),(64,ad9),(84,aea),(87,aeb),(90,aec),(103,acw),(104,acx),(115,acy)]
def at5:js prog aS T5 k12=true:=by decide+kernel
def t6:Tr aF:=(.n 84 aea (.n 45 ad7 (.n 20 ad6 (.n 9 agF .l .l) .l) (.n 64 ad9 (.n 60 ad8 .l .l) .l)) (.n 103 acw (.n 90 aec (.n 87 aeb .l .l) .l) (.n 115 acy (.n 104 acx .l .l) .l)))
def T6:List (Tr aF):=t6::T5
def aw4 {O:bl} (hO:eU O) (hp:O.prog=prog) (hl:O.aS=aS):eY O T6:=by
 have h:=aw3 hO hp hl;have sf:=lO hO hp hl h at5;exact eY.cons (aN (sf 5 rfl) (aN (sf 2 rfl) (aN (sf 1 rfl) (aN (sf 0 rfl) aL aL) aL) (aN (sf 4 rfl) (aN (sf 3 rfl) aL aL) aL)) (aN (sf 8 rfl) (aN (sf 7 rfl) (aN (sf 6 rfl) aL aL) aL) (aN (sf 10 rfl) (aN (sf 9 rfl) aL aL) aL))) h
def aed:aF:=[.o 32481 [cu] (Qd)]
def aee:aF:=[.o 32481 [cu] (.az [.str [53,47,52],j 0])]
def aef:aF:=[.o 63729 [cu,j 1,j 0] (.az [v4,j 0])]
def aeg:aF:=[.m 61077 [zL,v21,nJ] (.az [.agg [v0,v2],j 0]) (.o 13017 [Be,v21,nJ] (.az [.agg [v2,v4],j 0]))
 (.l)]
def aeh:aF:=[.o 12660 [zL,.str [52],v87,v91] (.az [.agg [v3,v0],j 0])]
def aei:aF:=[.o 53661 [GR,v107,v4] (.az [v93,j 0])]
def aej:aF:=[.m 58325 [v63,j 2] (v51) (.m 42125 [v82,j 2] (v48) (.o 38476 [se,j 2] (EM))
 (.l))
 (.m 65467 [Xw,j 2] (EN) (.o 61976 [v80,j 2] (v53))
 (.l))]
def aek:aF:=[.m 46823 [v48,cu] (v10) (.o 36034 [EM,cu] (v11))
 (.o 55271 [v53,cu] (dn))]
def ael:aF:=[.m 62507 [v109,zL,nJ,j 0] (j 0) (.o 44889 [v109,Be,nJ,j 1] (j 0))
 (.l)]
def aem:aF:=[.o 7939 [.aE true 1 [v0,v0,v0],.fn (.f 60) [] []] (.bV false 1 1 [j 0])]
def acz:aF:=[.m 44889 [v109,Be,nJ,j 1] (Xw) (.o 24084 [v109,HC,v87,j 0] (v63))
 (.o 62507 [v109,zL,nJ,j 0] (se))]
def acA:aF:=[.o 4689 [Lq,.fn (.f 115) [] []] (.bV false 1 1 [j 0])]
def k13:List (Nat×aF):=[(16,aed),(17,aee),(18,aef),(22,aeg),(25,aeh),(27,aei),(55,aej),(56,aek),(66,ael),(77,aem),(116,acz),(120,acA)]
def at6:js prog aS T6 k13=true:=by decide+kernel
def t7:Tr aF:=(.n 55 aej (.n 22 aeg (.n 17 aee (.n 16 aed .l .l) (.n 18 aef .l .l)) (.n 27 aei (.n 25 aeh .l .l) .l)) (.n 77 aem (.n 66 ael (.n 56 aek .l .l) .l) (.n 120 acA (.n 116 acz .l .l) .l)))
def T7:List (Tr aF):=t7::T6
def aw5 {O:bl} (hO:eU O) (hp:O.prog=prog) (hl:O.aS=aS):eY O T7:=by
 have h:=aw4 hO hp hl;have lF:=lO hO hp hl h at6;exact eY.cons (aN (lF 6 rfl) (aN (lF 3 rfl) (aN (lF 1 rfl) (aN (lF 0 rfl) aL aL) (aN (lF 2 rfl) aL aL)) (aN (lF 5 rfl) (aN (lF 4 rfl) aL aL) aL)) (aN (lF 9 rfl) (aN (lF 8 rfl) (aN (lF 7 rfl) aL aL) aL) (aN (lF 11 rfl) (aN (lF 10 rfl) aL aL) aL))) h
def aen:aF:=[.m 60666 [cu,Q7] (Qd) (.o 44523 [cu,Q6] (.az [v2,j 0]))
 (.l)]
def aeo:aF:=[.m 62507 [v109,zL,nJ,j 0] (dn) (.o 44889 [v109,Be,nJ,j 1] (v10))
 (.l)]
def aep:aF:=[.o 45200 [Lq] (j 0)]
def aeq:aF:=[.o 45043 [Lq,HC,v87,j 0,j 4] (.bV false 4 4 [j 1,.ab,j 2,.ab,j 0,.ab,j 1,.ab,j 0,.ab,j 1,.ab,j 0,.ab,j 1,.ab])]
def k14:List (Nat×aF):=[(19,aen),(67,aeo),(76,aep),(82,aeq)]
def at7:js prog aS T7 k14=true:=by decide+kernel
def t8:Tr aF:=(.n 76 aep (.n 67 aeo (.n 19 aen .l .l) .l) (.n 82 aeq .l .l))
def T8:List (Tr aF):=t8::T7
def aw6 {O:bl} (hO:eU O) (hp:O.prog=prog) (hl:O.aS=aS):eY O T8:=by
 have h:=aw5 hO hp hl;have Rc:=lO hO hp hl h at7;exact eY.cons (aN (Rc 2 rfl) (aN (Rc 1 rfl) (aN (Rc 0 rfl) aL aL) aL) (aN (Rc 3 rfl) aL aL)) h
def aer:aF:=[.m 62507 [v109,zL,nJ,j 0] (.az [v2,j 0]) (.o 44889 [v109,Be,nJ,j 1] (Qd))
 (.l)]
def aes:aF:=[.o 27996 [Lq,.aE true 1 [v0,v0,v0],VS,j 0] (.az [.bV false 1 1 [HB],j 0])]
def k15:List (Nat×aF):=[(24,aer),(26,aes)]
def aua:js prog aS T8 k15=true:=by decide+kernel
def t9:Tr aF:=(.n 26 aes (.n 24 aer .l .l) .l)
def T9:List (Tr aF):=t9::T8
def aw7 {O:bl} (hO:eU O) (hp:O.prog=prog) (hl:O.aS=aS):eY O T9:=by
 have h:=aw6 hO hp hl;have c15:=lO hO hp hl h aua;exact eY.cons (aN (c15 1 rfl) (aN (c15 0 rfl) aL aL) aL) h
def agG:aF:=[.o 7 [] (.bool true)]
def k16:List (Nat×aF):=[(1,agG)]
def aub:js prog aS T9 k16=true:=by decide+kernel
def t10:Tr aF:=(.n 1 agG .l .l)
def T10:List (Tr aF):=t10::T9
def auc {O:bl} (hO:eU O) (hp:O.prog=prog) (hl:O.aS=aS):eY O T10:=by
 have h:=aw7 hO hp hl;have c16:=lO hO hp hl h aub;exact eY.cons (aN (c16 0 rfl) aL aL) h
def holds {O:bl} (hO:eU O) (hp:O.prog=prog) (hl:O.aS=aS):fc O 1 [] (.bool true):=Tr.Dn (auc hO hp hl t10 (.head _)) (i:=1) rfl _ _ ⟨_,.head _,.inl rfl⟩
end VK1
end VE
