import Derived.Test.YtlkgmaenobiooaaGreatDoorTaj
import Derived.Test.YtlkgmaenobiooaaGreatDoorTai
set_option linter.all false
set_option maxRecDepth 100000
namespace VE
namespace ml
def T0:List (Tr aq):=[]
abbrev j (n:Int):AV:= .int .i64 n
abbrev u (n:Nat):AV:= .int .u64 n
def w (l:List Nat):AV:= .ap true l.length (l.map u)
def v0:AV:= .str [49]
def v1:AV:= .str [50]
def v2:AV:= .str [48]
def v3:AV:= .str [45,50,47,51]
def v4:AV:= .str [45,49,47,51]
def v5:AV:= .str [52]
def v6:AV:= .str [51]
def v7:AV:= .agg [j (-5),.aa]
def v8:AV:= .agg [j 2,.aa]
def v9:AV:= .agg [j 1,.aa]
def v10:AV:= .agg [j 0,.aa]
def v11:AV:= .agg [j (-3),.aa]
def v12:AV:= .str [45,51]
def v13:AV:= .agg [j 500,.aa]
def rO:AV:= .agg [j (-6),.aa]
def Ns:AV:= .str [45,54]
def jk:AV:= .agg [j 707,.aa]
def cI:AV:= .agg [j 8,.aa]
def oW:AV:= .str [56]
def bN:AV:= .agg [j 4,.aa]
def v20:AV:= .agg [j 200,.aa]
def v21:AV:= .agg [j 3,.aa]
def v22:AV:= .agg [j (-1),.aa]
def jl:AV:= .str [45,49]
def v24:AV:= .agg [j 11184811,.aa]
def v25:AV:= .agg [j (-2),.aa]
def qK:AV:= .str [45,50]
def v27:AV:= .agg [j 6,.aa]
def v28:AV:= .agg [j 5,.aa]
def fI:AV:= .str [53]
def v30:AV:= .agg [j 177,.aa]
def v31:AV:= .agg [j 1000,.aa]
def v32:AV:= .agg [j 283,.aa]
def v33:AV:= .agg [j 250,.aa]
def v34:AV:= .agg [j (-177),.aa]
def v35:AV:= .agg [j 33554432,.aa]
def v36:AV:= .agg [j (-707),.aa]
def v37:AV:= .agg [j 10,.aa]
def v38:AV:= .agg [j (-4),.aa]
def SV:AV:= .agg [j 1000000,.aa]
def v40:AV:= .agg [j 2000000,.aa]
def fp:AV:= .agg [j 16,.aa]
def v42:AV:= .agg [j 100,.aa]
def Dk:AV:= .agg [j 256,.aa]
def v44:AV:= .agg [j 2048,.aa]
def v45:AV:= .ap false 3 [u 13782813920216018380,u 14771817424140671491,u 1846462208439]
def v46:AV:= .agg [j 10000000000000000,.aa]
def Nt:AV:= .agg [j 1000000000000000000,.aa]
def v48:AV:= .agg [j 100000000,.aa]
def v49:AV:= .agg [j 1000000000000000,.aa]
def v50:AV:= .agg [j 314159265358979323,.aa]
def v51:AV:=w [12841816680275005770,13161652337898601986,90638001705]
def SW:AV:= .agg [j 10000,.aa]
def v53:AV:=w [6399444481559475388,10948563002861]
def SX:AV:=w [8838169010550242411,11648284440560156239,7232]
def SY:AV:= .ap false 2 [u 8517096806125780797,u 2113149700393599948]
def SZ:AV:=w [5782533995252789348,6903900930993065827,95800405]
def v57:AV:= .agg [j 210924120762378,.aa]
def v58:AV:= .agg [j 131157864828,.aa]
def v59:AV:= .agg [j 378770245945430644,.aa]
def v60:AV:= .agg [j 91810290,.aa]
def S3:AV:= .agg [j 166995380103,.aa]
def S4:AV:=w [17141642983857435610,23729635]
def v63:AV:= .agg [j 268556931493155,.aa]
def v64:AV:= .agg [j 297485455515141020,.aa]
def v65:AV:= .agg [j 35300,.aa]
def v66:AV:= .agg [j 72107633,.aa]
def S5:AV:= .agg [j 44946,.aa]
def v68:AV:= .agg [j 12,.aa]
def v69:AV:= .agg [j 32,.aa]
def v70:AV:= .agg [j 14,.aa]
def IE:AV:= .agg [j 19,.aa]
def v72:AV:= .agg [j 11,.aa]
def v73:AV:= .agg [j (-15),.aa]
def nV:AV:= .agg [j 16777217,.aa]
def v75:AV:= .agg [j 65536,.aa]
def v76:AV:= .agg [j 16777216,.aa]
def rP:AV:= .agg [j (-4),.aa,j 1,.aa]
def fA:AV:= .agg [j (-2),.aa,j 1,.aa]
def cf:AV:= .agg [j 1,.aa,j 1,.aa]
def v80:AV:= .agg [j 3,.aa,j 1,.aa]
def qM:AV:= .agg [j (-6),.aa,j 1,.aa]
def v82:AV:= .agg [j 8,.aa,j 1,.aa]
def v83:AV:= .agg [j 5,.aa,j 1,.aa]
def v84:AV:= .agg [j 2,.aa,j 1,.aa]
def v85:AV:= .agg [j (-1),.aa,j 1,.aa]
def v86:AV:= .agg [j 2000000,.aa,j 1,.aa]
def v87:AV:= .agg [j 4,.aa,j 1,.aa]
def IF:AV:= .agg [j 11,.aa,j 1,.aa]
def qO:AV:= .agg [j 6,.aa,j 1,.aa]
def v90:AV:= .agg [j (-15),.aa,j 1,.aa]
def v91:AV:= .agg [j (-3),.aa,j 1,.aa]
def bM:AV:= .agg [j 0,.aa,j 1,.aa]
def v93:AV:= .agg [j 1,.aa,j 4,.aa]
def v94:AV:= .agg [j (-1),.aa,j 4,.aa]
def Fw:AV:= .agg [j 5,.aa,j 8,.aa]
def v96:AV:= .agg [j (-5),.aa,j 8,.aa]
def IG:AV:= .agg [j 3,.aa,j 8,.aa]
def Bm:AV:= .agg [j (-3),.aa,j 8,.aa]
def kR:AV:= .agg [j (-1),.aa,j 2,.aa]
def fk:AV:= .agg [j 1,.aa,j 2,.aa]
def Xb:AV:= .agg [j 8388608,.aa,j 1,.aa]
def ami:AV:= .agg [j (-8388608),.aa,j 1,.aa]
def Xc:AV:= .agg [j 11184810,.aa,j 1,.aa]
def amj:AV:= .agg [j (-11184810),.aa,j 1,.aa]
def v105:AV:= .agg [j 1,.aa,j 8,.aa]
def HF:AV:= .agg [j (-5),.aa,j 2,.aa]
def v107:AV:= .agg [j 707,.aa,j 500,.aa]
def EQ:AV:= .agg [j (-1),.aa,j 3,.aa]
def v109:AV:= .agg [j 283,.aa,j 200,.aa]
def QR:AV:= .agg [j (-707),.aa,j 1000,.aa]
def QS:AV:= .agg [j 707,.aa,j 1000,.aa]
def oD:AV:= .agg [j (-2),.aa,j 3,.aa]
def QT:AV:= .agg [j (-177),.aa,j 250,.aa]
def QU:AV:= .agg [j 177,.aa,j 250,.aa]
def HG:AV:= .agg [j 16777217,.aa,j 1,.aa]
def CP:AV:= .agg [j (-3),.aa,j 2,.aa]
def v117:AV:= .agg [j 1,.aa,j 3,.aa]
def Xd:AV:= .agg [j 11184811,.aa,j 1,.aa]
def ER:AV:= .agg [j 11184810,.aa]
def Xe:AV:= .agg [j 8388608,.aa]
def amk:AV:= .agg [j 1000000,.aa,j 1,.aa]
def pX:AV:= .agg [j 1414,.aa]
def Xf:AV:= .agg [j 2828,.aa]
def v124:AV:= .agg [j 1417,.aa]
def HH:AV:= .agg [j 1415,.aa]
def Xg:AV:= .agg [j 1512,.aa]
def v127:AV:= .agg [j (-708),.aa]
def AD:AV:= .agg [j 708,.aa]
def Mk:AV:= .agg [j (-12),.aa]
def v130:AV:= .str [49,49]
def v131:AV:= .str [49,54,55,55,55,50,49,55]
def HI:AV:= .agg [j 15,.aa]
def Xh:AV:= .agg [j 414,.aa]
def Xi:AV:= .agg [j 415,.aa]
def Xj:AV:= .agg [j 170,.aa]
def Xk:AV:= .agg [j 75,.aa]
def Xl:AV:= .agg [j 172,.aa]
def v138:AV:= .agg [j 70,.aa]
def v139:AV:= .agg [j 20,.aa]
def QV:AV:=w [17280761535336168307,17528012411317331584,461615552109]
def v141:AV:= .agg [j 30,.aa]
def QW:AV:= .agg [j 103011146151,.aa]
def v143:AV:= .agg [j 233644530399045067,.aa]
def QX:AV:= .agg [j 165659417062993,.aa]
def v145:AV:= .agg [j 56633202,.aa]
def v146:AV:= .agg [j 27724,.aa]
def Xm:AV:= .agg [j 9,.aa]
def v148:AV:= .agg [j 13,.aa]
def QY:AV:= .agg [j 7,.aa]
def Xn:AV:= .agg [j 21418505775128880,.aa]
def Xo:AV:= .agg [j 10863153207246784,.aa]
def v152:AV:= .agg [j 10555352567882096,.aa]
def Xp:AV:= .agg [j 307800639364688,.aa]
def v154:AV:= .agg [j 90130829482704,.aa]
def Xq:AV:= .agg [j 3079557691198605696,.aa]
def Xr:AV:= .agg [j 869142387409225424,.aa]
def v157:AV:= .agg [j 472130528970929424,.aa]
def Xs:AV:= .agg [j 397011858438296000,.aa]
def v159:AV:= .agg [j 75118670532633424,.aa]
def v160:AV:= .agg [j 37408150916576,.aa]
def Xt:AV:= .agg [j 15314527649552,.aa]
def v162:AV:= .agg [j 6779095617472,.aa]
def Xu:AV:= .agg [j 1756336414608,.aa]
def v164:AV:= .agg [j 3708163600,.aa]
def Xv:AV:= .agg [j 3314491344,.aa]
def Xw:AV:= .agg [j 393672256,.aa]
def v167:AV:= .agg [j 1510086373648,.aa]
def v168:AV:= .agg [j 246250040960,.aa]
def Xx:AV:= .agg [j 165113296,.aa]
def Xy:AV:= .agg [j 63445664,.aa]
def v171:AV:= .agg [j 38221968,.aa]
def Xz:AV:= .agg [j 25223696,.aa]
def v173:AV:= .agg [j 32586127888,.aa]
def XA:AV:= .agg [j 18147145744,.aa]
def v175:AV:= .agg [j 12998272,.aa]
def XB:AV:= .agg [j 12225424,.aa]
def XC:AV:= .agg [j 772848,.aa]
def XD:AV:= .agg [j 632704,.aa]
def XE:AV:= .agg [j 14438982144,.aa]
def XF:AV:= .agg [j 2224,.aa]
def XG:AV:= .agg [j 1888,.aa]
def v182:AV:= .agg [j 336,.aa]
def v183:AV:=w [5014872534286336000,4272233503850647016,18367099]
def XH:AV:= .agg [j 208,.aa]
def XI:AV:= .agg [j 128,.aa]
def XJ:AV:= .agg [j 80,.aa]
def XK:AV:= .agg [j 140144,.aa]
def XL:AV:= .agg [j 68016,.aa]
def XM:AV:= .agg [j 4112,.aa]
def XN:AV:= .agg [j 72128,.aa]
def Ml:AV:=w [18064758389395912917,7182119875137284349,12987500417]
def HJ:AV:= .agg [j 48,.aa]
def v193:AV:= .agg [j 5832619374768430096,.aa]
def v194:AV:= .agg [j 4915396281750918896,.aa]
def XO:AV:= .agg [j 917223093017511200,.aa]
def v196:AV:= .agg [j 329280816663362896,.aa]
def XP:AV:= .agg [j 258661459690785408,.aa]
def v198:AV:= .agg [j 616634671632512,.aa]
def XQ:AV:= .agg [j 211912954363632,.aa]
def XR:AV:= .agg [j 192808762905248,.aa]
def v201:AV:= .agg [j 331140077104,.aa]
def XS:AV:= .agg [j 111147935888,.aa]
def v203:AV:= .agg [j 108844205328,.aa]
def XT:AV:= .agg [j 19104191458384,.aa]
def XU:AV:= .agg [j 46803388773052944,.aa]
def v206:AV:= .agg [j 23815968199524544,.aa]
def XV:AV:= .agg [j 22987420573528400,.aa]
def v208:AV:= .agg [j 1766848321408,.aa]
def XW:AV:= .agg [j 1435708244304,.aa]
def v210:AV:= .agg [j 2303730560,.aa]
def XX:AV:= .agg [j 70619356972577488,.aa]
def v212:AV:= .agg [j 568869008,.aa]
def XY:AV:= .agg [j 828547625996144,.aa]
def Mm:AV:=w [18064758389396037917,7182119875137284349,12987500417]
def XZ:AV:= .agg [j 38912,.aa]
def X0:AV:= .agg [j 12016,.aa]
def X1:AV:= .agg [j 2864,.aa]
def v218:AV:= .agg [j 1805392,.aa]
def X2:AV:= .agg [j 167664,.aa]
def X3:AV:= .agg [j 128752,.aa]
def X4:AV:= .agg [j 3778448,.aa]
def v222:AV:= .agg [j 560,.aa]
def X5:AV:= .agg [j 28254528,.aa]
def X6:AV:= .agg [j 64,.aa]
def X7:AV:= .agg [j 36,.aa]
def v226:AV:= .agg [j 293,.aa]
def v227:AV:= .agg [j 292,.aa]
def v228:AV:= .agg [j 124,.aa]
def v229:AV:= .agg [j 44,.aa]
def X8:AV:= .agg [j 121,.aa]
def X9:AV:= .agg [j 51,.aa]
def v232:AV:= .str [55,48,55,47,53,48,48]
def v233:AV:= .str [50,56,51,47,50,48,48]
def v234:AV:= .str [49,47,56]
def oE:AV:= .str [49,47,50]
def v236:AV:= .str [45,49,55,55,47,50,53,48]
def QZ:AV:= .str [45,55,48,55,47,49,48,48,48]
def Q0:AV:= .str [55,48,55,47,49,48,48,48]
def Rc:AV:= .str [49,55,55,47,50,53,48]
def HK:AV:= .str [49,47,54]
def HL:AV:= .str [49,47,52]
def Re:AV:= .str [49,47,51]
def HM:AV:= .str [45,53,47,50]
def AE:AV:= .agg [j 1,.aa,j 6,.aa]
def Rg:AV:= .agg [j 11184811,.aa,j 33554432,.aa]
def aml:AV:= .str [49,49,49,56,52,56,49,49,47,51,51,53,53,52,52,51,50]
def Rh:AV:= .agg [j 2,.aa,j 3,.aa]
def Ya:AV:= .agg [j 16777216,.aa,j 1,.aa]
def Mn:AV:= .agg [j 33554432,.aa,j 1,.aa]
def HN:AV:= .agg [j 16777217,.aa,j 2,.aa]
def HO:AV:= .agg [j 33554432,.aa,j 3,.aa]
def Ri:AV:= .agg [j (-2),.aa,j 1,.aa,j (-2),.aa,j 1,.aa]
def AF:AV:= .agg [j 2,.aa,j 1,.aa,j 2,.aa,j 1,.aa]
def Rj:AV:= .agg [j 1,.aa,j 33554432,.aa]
def amm:AV:= .ap false 2 [j 2,.aa,j 1,.aa,j 1,.aa,j 1,.aa]
def Yb:AV:= .ap false 3 [j 1,.aa,j 1,.aa,j 0,.aa,j 1,.aa,j (-1),.aa,j 3,.aa]
def Rk:AV:= .ap false 3 [j 0,.aa,j 1,.aa,j 1,.aa,j 1,.aa,j (-2),.aa,j 3,.aa]
def amn:AV:= .ap false 2 [j 4,.aa,j 1,.aa,j 3,.aa,j 1,.aa]
def amo:AV:= .ap false 2 [j 1,.aa,j 1,.aa,j 2,.aa,j 1,.aa]
def sL:AV:= .agg [j 1,.aa,j 1,.aa,j 1,.aa,j 1,.aa]
def Yc:AV:= .agg [j 4,.aa,j 1,.aa,j 4,.aa,j 1,.aa]
def Mo:AV:= .agg [j 5,.aa,j 1,.aa,j 5,.aa,j 1,.aa]
def Mq:AV:= .agg [j 3,.aa,j 1,.aa,j 3,.aa,j 1,.aa]
def Mr:AV:= .agg [j (-1),.aa,j 1,.aa,j (-1),.aa,j 1,.aa]
def amp:AV:= .agg [j 6,.aa,j 1,.aa,j 6,.aa,j 1,.aa]
def amq:AV:= .ap true 4 [j (-1),.aa,j 1,.aa,j (-1),.aa,j 1,.aa,j (-1),.aa,j 1,.aa,j (-1),.aa,j 1,.aa]
def amr:AV:= .ap true 4 [j (-2),.aa,j 1,.aa,j (-2),.aa,j 1,.aa,j (-2),.aa,j 1,.aa,j (-2),.aa,j 1,.aa]
def ams:AV:= .ap true 4 [j 1,.aa,j 1,.aa,j (-2),.aa,j 1,.aa,j (-2),.aa,j 1,.aa,j 4,.aa,j 1,.aa]
def amt:AV:= .ap false 4 [j 1,.aa,j 4,.aa,j 1,.aa,j 8,.aa,j 1,.aa,j 2,.aa,j 1,.aa,j 4,.aa]
def amu:AV:= .ap false 4 [j 3,.aa,j 1,.aa,j (-4),.aa,j 1,.aa,j (-6),.aa,j 1,.aa,j 8,.aa,j 1,.aa]
def amv:AV:= .ap true 4 [j 3,.aa,j 1,.aa,j 3,.aa,j 1,.aa,j 3,.aa,j 1,.aa,j 3,.aa,j 1,.aa]
def amw:AV:= .ap true 4 [j 4,.aa,j 1,.aa,j 4,.aa,j 1,.aa,j 4,.aa,j 1,.aa,j 4,.aa,j 1,.aa]
def amx:AV:= .ap true 4 [j 1,.aa,j 1,.aa,j 1,.aa,j 1,.aa,j 1,.aa,j 1,.aa,j 1,.aa,j 1,.aa]
def amy:AV:= .ap true 4 [j 6,.aa,j 1,.aa,j 6,.aa,j 1,.aa,j 6,.aa,j 1,.aa,j 6,.aa,j 1,.aa]
def Ro:AV:= .ap true 3 [j 1,.aa,j 1,.aa,j 2,.aa,j 1,.aa,j 3,.aa,j 1,.aa]
def amz:AV:= .ap false 3 [j 3,.aa,j 1,.aa,j 4,.aa,j 1,.aa,j 11,.aa,j 1,.aa]
def Ms:AV:= .ap false 3 [j 1,.aa,j 1,.aa,j 2,.aa,j 1,.aa,j 5,.aa,j 1,.aa]
def amA:AV:= .ap false 3 [j 0,.aa,j 1,.aa,j 1,.aa,j 1,.aa,j 2,.aa,j 1,.aa]
def Yd:AV:= .ap true 3 [j 2,.aa,j 1,.aa,j 4,.aa,j 1,.aa,j 6,.aa,j 1,.aa]
def amB:AV:= .ap false 3 [j 1,.aa,j 1,.aa,j 2,.aa,j 1,.aa,j 3,.aa,j 1,.aa]
def Rr:AV:= .str [45,49,47,56]
def Ye:AV:= .agg [j (-1),.aa,j 8,.aa]
def Ru:AV:= .agg [j (-1),.aa,j 1,.aa,j 2,.aa,j 1,.aa]
def amC:AV:= .ap true 3 [j (-3),.aa,j 1,.aa,j 0,.aa,j 1,.aa,j 1,.aa,j 1,.aa]
def amD:AV:= .ap false 3 [j 1,.aa,j 1,.aa,j (-1),.aa,j 2,.aa,j 0,.aa,j 1,.aa]
def Yf:AV:= .ap true 3 [j (-2),.aa,j 1,.aa,j 1,.aa,j 1,.aa,j 0,.aa,j 1,.aa]
def amE:AV:= .ap false 3 [j 0,.aa,j 1,.aa,j (-3),.aa,j 2,.aa,j 1,.aa,j 1,.aa]
def amF:AV:= .ap false 3 [j 0,.aa,j 1,.aa,j (-2),.aa,j 1,.aa,j (-4),.aa,j 1,.aa]
def CQ:AV:= .ap true 2 [v0,v1]
def HP:AV:= .ap true 2 [v1,v0]
def HQ:AV:= .ap true 3 [v2,v0,v3]
def HR:AV:= .ap true 3 [v0,v2,v4]
def HS:AV:= .ap true 2 [v5,v6]
def AG:AV:= .agg [j 1,v45]
def Yg:AV:= .agg [j 1,.ap false 3 [u 8640380767668084153,u 17987378242513441600,u 230807776054]]
def dI:AV:= .agg [j 1,w [8640380767668084153,17987378242513441600,230807776054]]
def Yh:AV:= .agg [j 1,w [16216789405050171313,13990962461900849178,13001944405576862530,2721289870473684565,16479346644060571776,2887]]
def Yi:AV:= .agg [j 1,w [9632337040368467968,5421010862427]]
def Yj:AV:= .agg [j 1,.ap false 3 [u 16114778996962784998,u 16609280748925111553,u 923231104219]]
def amG:AV:= .agg [j 1,w [16616825203528040448,17030607900432772]]
def bJ:AV:= .agg [j 1,w [13070572018536022016,10549268516463523069,293873587705]]
def Yk:AV:= .agg [j 1,w [7585187672398757888,569008837486978856,2854786896515372131,13854840613988277292,18078004663405200202,3676]]
def Yl:AV:= .agg [j 1,w [16800268943940132986,10498901635650969125,15552186833516458699,617515930402880608,1347820176139651620,1134]]
def amH:AV:= .agg [j 1,.ap false 2 [u 17463089541855990736,u 17030607900432772]]
def amI:AV:= .agg [j 1,w [16114359280022847488,16609280748925111553,923231104219]]
def Ym:AV:= .agg [j 1,.ap false 2 [u 15956439711762054671,u 1659663893673001552]]
def Yn:AV:= .agg [j 1,w [12234476317405662167,11692049235685359344,15353889696288128096,15111976797126571406,20765904853]]
def Yo:AV:= .agg [j 1,.ap false 3 [u 2023799238178458475,u 7999906463597924033,u 75241462]]
def Yp:AV:= .agg [j 1,.ap false 5 [u 8068274122100154195,u 10164474085895960830,u 8661451129107458488,u 11709122817828559434,u 17366314611440665278]]
def Yq:AV:= .agg [j 1,w [5057613930186074076,12163321890431987431,9297356646049816308,12453774809672462324,136989]]
def Yr:AV:= .agg [j 1,.ap false 5 [u 16600421415523125331,u 6593959610220467789,u 9621704098130034456,u 15503065397907737844,u 1669347581099524]]
def Ys:AV:= .agg [j 1,w [3597362798407890137,9139644163598633729,5680]]
def Yt:AV:= .agg [j 1,.ap false 5 [u 724442254058341841,u 12242707536774606347,u 15727830659569986504,u 12988536605132093096,u 1311102524267539]]
def Rv:AV:= .agg [j 1,w [11635806404526227817,5431237391449305]]
def Yu:AV:= .agg [j 1,w [11628999839319665121,7983186536062692438,6928779995928134897,13333596706826726224,67956264]]
def Yv:AV:= .agg [j 1,w [17862480628081892373,5412527530760177011,9289918553171977696,1669267044269566458,26439971242]]
def Yw:AV:= .agg [j 1,.ap false 3 [u 12004326465849222656,u 12583738487651288622,u 71186920073]]
def Yx:AV:= .agg [j 1,w [5415264564868724224,2702429455317848186,3257820634772804819,2921037779272485671,12892480808343775952,890]]
def Yy:AV:= .agg [j 1,w [3357387301995924548,10998580160438829665,17305001410530887765,13223409123470817412,3664734435888764724,1]]
def Rw:AV:= .agg [j 1,w [6941760015582258140,11976423673148936281,4659173023]]
def Yz:AV:= .agg [j 1,w [9499324417185814012,2579272376208973014,10473475704207649438,8359000212588520640,5462207568661732176,58]]
def YA:AV:= .agg [j 1,.ap false 3 [u 7618611272510715734,u 13374841863731521290,u 3659305935]]
def YB:AV:= .agg [j 1,w [3674031232874724134,12529952070501274096,329920358137583042,5544844341389442335,14492781612538992981,45]]
def Ry:AV:= .agg [j 1,w [13621876266353651619,14736531200132615338,33]]
def YC:AV:= .agg [j 1,.ap false 5 [u 17292431025786201035,u 11946252089032414340,u 13964961894145495040,u 13986844084537750418,u 7801041777162]]
def YD:AV:= .agg [j 1,w [16370927238490033171,10063982856075116439,26]]
def YE:AV:= .agg [j 1,.ap false 5 [u 11009532767374467259,u 8124201305943929203,u 16104677368926751221,u 7314726601207293494,u 6126923884370]]
def YF:AV:= .agg [j 1,.ap false 2 [u 12366545110363778517,u 4265683872219832]]
def YG:AV:= .agg [j 1,w [13230967557627232237,3500369219144259201,2487962285782537470,9309154521224901510,53372725]]
def YH:AV:= .agg [j 1,w [4021442947409540411,9486481206710503630,828798]]
def YI:AV:= .agg [j 1,.ap false 5 [u 14550886082860770979,u 14470342835219398496,u 12822340539202483276,u 829795195913251750,u 191293141874751367]]
def Rz:AV:= .agg [j 1,w [6615404896634909228,792797273462150915,1055259]]
def YJ:AV:= .agg [j 1,.ap false 5 [u 14189355548283026892,u 14716625746279442152,u 12318077660473956507,u 13146092726962069828,u 243561992871567315]]
def YK:AV:= .agg [j 1,w [14104395762648518710,19]]
def YL:AV:= .agg [j 1,.ap false 4 [u 6557673277525087494,u 15976676401898429601,u 8523590972869011769,u 4561823561349]]
def YM:AV:= .agg [j 1,w [17533984222864527674,12353584992072517549,14264124144876419712,2639106]]
def YN:AV:= .agg [j 1,w [17236632546876903068,11135480475144698162,1148068112344762910,1641]]
def YO:AV:= .agg [j 1,w [1882113692433447380,6589440540014481872,11201623559418453978,4739216728]]
def YP:AV:= .agg [j 1,w [13944175567244065250,4096355134818525490,2743784780152768049,1]]
def YQ:AV:= .agg [j 1,.ap false 2 [u 8262468237226232984,u 13958642011]]
def YR:AV:= .agg [j 1,w [10141935774598533592,8309989412897469218,9297645483805615959,12029650584374213082,174]]
def YS:AV:= .agg [j 1,w [16079647657453681551,9047855698823632873,8583923049414943528,2089]]
def YT:AV:= .agg [j 1,.ap false 2 [u 10209694078816097337,u 8598981274288]]
def YU:AV:= .agg [j 1,w [4511974855030608433,637104959086601153,12451904279572219604,8102622432476352004,107591]]
def YV:AV:= .agg [j 1,.ap false 4 [u 17876293434389998218,u 17941419946077638974,u 11792391544926169901,u 5476984495424500642]]
def YW:AV:= .agg [j 1,w [13956796289713155025,20826]]
def YX:AV:= .agg [j 1,.ap false 4 [u 6113462245698230025,u 11899689605548549250,u 7204198040994281268,u 4806977373155694]]
def RA:AV:= .agg [j 1,w [14334071515131066545,17772694999]]
def YY:AV:= .agg [j 1,w [15852820823071556841,16643281740854508204,6733274196778773178,6899023038396955358,222]]
def YZ:AV:= .agg [j 1,w [18173646507131229515,13627204094284174079,1964443467344395986,3360215]]
def Y0:AV:= .agg [j 1,w [8797682231043936192,18637212]]
def Y1:AV:= .agg [j 1,.ap false 4 [u 5361003646381842880,u 16435824858651011218,u 7726429105647848976,u 4301613563662702939]]
def Y2:AV:= .agg [j 1,w [3045029095724553698,25]]
def Y3:AV:= .agg [j 1,.ap false 4 [u 11025444859222714962,u 2417956740003135128,u 13421244786285755757,u 5808294154414]]
def RB:AV:= .agg [j 1,w [8302713205355927860,26517]]
def Y4:AV:= .agg [j 1,.ap false 4 [u 4244187385348643476,u 4734386098559386715,u 10417457931255205964,u 6120433682148984]]
def Y5:AV:= .agg [j 1,w [494431295515953084,10681898006951248689,10894471581772944298,3722172114]]
def Y6:AV:= .agg [j 1,.ap false 3 [u 6974583969644181956,u 17520943641721873814,u 8147514494740620]]
def Y7:AV:= .agg [j 1,.ap false 3 [u 7791533900303611049,u 2546863062074383501,u 16643002409318332171]]
def oF:AV:= .agg [j 1,w [6450984253743169536,13015503840481697412,293873587]]
def Y8:AV:= .agg [j 1,.ap false 3 [u 9697743876229720706,u 13696713614337051836,u 10373886302566910]]
def Y9:AV:= .agg [j 1,.ap false 3 [u 10284866305095868446,u 12015622436964011398,u 3231308864769]]
def Za:AV:= .agg [j 1,.ap false 3 [u 16593281996017185979,u 9718793280983461320,u 4385347745044]]
def amJ:AV:= .agg [j 1,w [228755338261016246,15834360252274472699,203235585999]]
def amK:AV:= .agg [j 1,w [11956471268774780203,4233453559939239903,207800006678]]
def amL:AV:= .agg [j 1,.ap false 3 [u 12335241514720210847,u 4233453559939239903,u 207800006678]]
def amM:AV:= .agg [j 1,w [6698787159143406041,4233453559939213411,207800006678]]
def amN:AV:= .agg [j 1,.ap false 3 [u 15001500364499333901,u 4233453559939239928,u 207800006678]]
def amO:AV:= .agg [j 1,.ap false 3 [u 8003386255225394266,u 3252936194182942452,u 207800013877]]
def amP:AV:= .agg [j 1,w [17611961318384703471,10051395827332337828,207800006644]]
def amQ:AV:= .agg [j 1,.ap false 3 [u 15905803109429250494,u 4233464490753250908,u 207800006678]]
def amR:AV:= .agg [j 1,w [9506358627869775106,4233453542190248047,207800006678]]
def amS:AV:= .agg [j 1,.ap false 3 [u 12787093511028803474,u 6341182953755401551,u 207800006678]]
def amT:AV:= .agg [j 1,w [4269996704903022677,4228033253361801603,207800006678]]
def amU:AV:= .agg [j 1,.ap false 3 [u 7170515353843274386,u 9364039851713857364,u 207894759023]]
def amV:AV:= .agg [j 1,w [1387981358590485038,2460138920720791537,207798958618]]
def amW:AV:= .agg [j 1,.ap false 3 [u 5393686069291290035,u 4233453559962943047,u 207800006678]]
def amX:AV:= .agg [j 1,.ap false 3 [u 12334973124784097795,u 4233453559939239903,u 207800006678]]
def amY:AV:= .agg [j 1,w [12334973124692287505,4233453559939239903,207800006678]]
def amZ:AV:= .agg [j 1,w [12334972957788717692,4233453559939239903,207800006678]]
def RC:AV:= .agg [j 1,.ap false 3 [u 12334973124692332432,u 4233453559939239903,u 207800006678]]
def HT:AV:= .agg [j 1,.ap false 3 [u 12334973124693332432,u 4233453559939239903,u 207800006678]]
def HU:AV:= .agg [j 1,w [12334973124691332432,4233453559939239903,207800006678]]
def am0:AV:= .agg [j 1,w [12334973124692332432,4233453559939239903,207800006678]]
def am1:AV:= .agg [j 1,.ap false 3 [u 12334973124692332451,u 4233453559939239903,u 207800006678]]
def Mt:AV:= .af [v8,v10]
def HV:AV:= .af [v9,v10]
def HW:AV:= .af [v10,v9]
def Mu:AV:= .af [v10,v8]
def RD:AV:= .af [v21,v10]
def RE:AV:= .agg [j 1,.ap false 3 [u 9514143892148891222,u 14589875561820374064,u 55910076283]]
def RF:AV:= .agg [j 1,.ap false 3 [u 7236889286840459925,u 7876560602087652357,u 181276003411]]
def RG:AV:= .agg [j 1,w [2225215780011097513,15327931522679171057,650936]]
def RH:AV:= .agg [j 1,.ap false 3 [u 7455323194197715914,u 4202843118986907043,u 2874012161]]
def RI:AV:= .agg [j 1,w [585116523289769433,15658363997444158300,20]]
def RJ:AV:= .agg [j 1,w [1527792737363884452,7503159166461348028,59094506]]
def RL:AV:= .agg [j 1,.ap false 2 [u 7135181956152382277,u 1303496973947833351]]
def RM:AV:= .agg [j 1,w [8753492008855507006,8313990678002305033,4461]]
def RN:AV:= .agg [j 1,w [8305159076503378217,14637632]]
def RO:AV:= .agg [j 1,.ap false 2 [u 2875139543986997541,u 3350260278875572]]
def RP:AV:= .agg [j 1,.ap false 2 [u 5157674005487560540,u 6753624099915]]
def RQ:AV:= .agg [j 1,.ap false 2 [u 5785850920737608665,u 10963091799]]
def RR:AV:= .agg [j 1,w [5467296334037880926,16357]]
def RS:AV:= .agg [j 1,w [9649144829102292634,15]]
def Zb:AV:= .agg [j 1,.ap false 3 [u 349704605168908272,u 17270539680539398753,u 77094]]
def Zc:AV:= .agg [j 1,.ap false 3 [u 9267470765430408848,u 17447578655697668941,u 33219]]
def Zd:AV:= .agg [j 1,.ap false 3 [u 261507148017642192,u 822126442853612486,u 10655]]
def Ze:AV:= .agg [j 1,.ap false 3 [u 7834891934529719632,u 7197531120445425756,u 31380170]]
def Zf:AV:= .agg [j 1,.ap false 3 [u 9723933137813899312,u 3577955977601520452,u 11452054]]
def Zg:AV:= .agg [j 1,.ap false 3 [u 6833769732611472624,u 41619165242384851,u 8476062]]
def Zh:AV:= .agg [j 1,.ap false 3 [u 1053442922206619248,u 11415689614233665265,u 2524077]]
def Zi:AV:= .agg [j 1,.ap false 3 [u 1836720482995807440,u 10567391271835021952,u 451914]]
def Zj:AV:= .agg [j 1,.ap false 3 [u 10316584580937133664,u 13918965476187210352,u 264504]]
def Zk:AV:= .agg [j 1,.ap false 3 [u 2890163405202426688,u 3536336812359135601,u 2975992]]
def Zl:AV:= .agg [j 1,.ap false 3 [u 9966879975768225392,u 15095169869357363215,u 187409]]
def Zm:AV:= .agg [j 1,.ap false 3 [u 16893689183768430832,u 12684534469197727453,u 3]]
def Zn:AV:= .agg [j 1,.ap false 3 [u 7441730033706885616,u 1715340864178252272,u 1]]
def Zo:AV:= .agg [j 1,.ap false 2 [u 13015243156357325600,u 7538511876662970636]]
def Zp:AV:= .agg [j 1,.ap false 2 [u 3833049185714940912,u 40786512933943980]]
def Zq:AV:= .agg [j 1,.ap false 2 [u 13551512549659598096,u 15013748623870650]]
def Zr:AV:= .agg [j 1,.ap false 2 [u 13623512233814847952,u 10759015686202678]]
def Zs:AV:= .agg [j 1,.ap false 3 [u 14559915651415052928,u 13228462717394739238,u 21]]
def Zt:AV:= .agg [j 1,.ap false 3 [u 4335620253824644048,u 8637665728864155564,u 8]]
def Zu:AV:= .agg [j 1,.ap false 3 [u 5888675143765764832,u 14399875333375979726,u 4]]
def Zv:AV:= .agg [j 1,.ap false 3 [u 8482949321377482272,u 14981199327136831483,u 1254]]
def Zw:AV:= .agg [j 1,.ap false 3 [u 6184888871835990480,u 10099740341725821930,u 616]]
def Zx:AV:= .agg [j 1,.ap false 2 [u 18304731868411337648,u 5085061184561862614]]
def Zy:AV:= .agg [j 1,.ap false 2 [u 13157255361655539568,u 2453450692101108021]]
def Zz:AV:= .agg [j 1,.ap false 2 [u 10436965218809810128,u 178159800359646571]]
def ZA:AV:= .agg [j 1,.ap false 2 [u 6603916033094869216,u 137373287425702591]]
def ZB:AV:= .agg [j 1,.ap false 2 [u 18374744389554301760,u 4254732937667971]]
def ZC:AV:= .agg [j 1,.ap false 2 [u 7916510896190665120,u 5581036710]]
def ZD:AV:= .agg [j 1,.ap false 2 [u 16347454578296750992,u 3577109470]]
def ZE:AV:= .agg [j 1,.ap false 2 [u 10015800391603465744,u 2003927239]]
def ZF:AV:= .agg [j 1,.ap false 2 [u 16399614008783666512,u 6881587320788]]
def ZG:AV:= .agg [j 1,.ap false 2 [u 995144945467656128,u 2078543031735]]
def ZH:AV:= .agg [j 1,.ap false 2 [u 13414179172380698128,u 645958225583]]
def ZI:AV:= .agg [j 1,.ap false 2 [u 5111978564696012016,u 50249654277257]]
def ZJ:AV:= .agg [j 1,.ap false 2 [u 7159108629621897120,u 43368066956468]]
def ZK:AV:= .agg [j 1,.ap false 2 [u 13767511602125347664,u 2249549810866734]]
def ZL:AV:= .agg [j 1,.ap false 2 [u 4607232787428954096,u 2005183126801237]]
def ZM:AV:= .agg [j 1,.ap false 2 [u 9160278814696393568,u 244366684065497]]
def ZN:AV:= .agg [j 1,.ap false 2 [u 11709786853761729984,u 57383549335]]
def ZO:AV:= .agg [j 1,.ap false 2 [u 11120010015640308240,u 25901256312]]
def ZP:AV:= .agg [j 1,.ap false 2 [u 4383052795692486608,u 83284805648]]
def ZQ:AV:= .agg [j 1,.ap false 2 [u 16092839649454216592,u 140668354983]]
def ZR:AV:= .agg [j 1,.ap false 2 [u 6331654186693285248,u 1573182231]]
def ZS:AV:= .agg [j 1,.ap false 2 [u 3684146204910180496,u 430745008]]
def ZT:AV:= .agg [j 1,.ap false 2 [u 9170180249816038160,u 281199]]
def ZU:AV:= .agg [j 1,.ap false 2 [u 2286845318953838880,u 48233]]
def ZV:AV:= .agg [j 1,.ap false 2 [u 16182697728756395376,u 40033]]
def ZW:AV:= .agg [j 1,.ap false 2 [u 3083901620222578096,u 18648396]]
def ZX:AV:= .agg [j 1,.ap false 2 [u 2180461744876363584,u 610632]]
def ZY:AV:= .agg [j 1,.ap false 2 [u 11457025568769877040,u 329432]]
def ZZ:AV:= .agg [j 1,.ap false 2 [u 5321029012724858640,u 131149405]]
def Z0:AV:= .agg [j 1,.ap false 2 [u 8404930632947436736,u 149797801]]
def Z1:AV:= .agg [j 1,.ap false 2 [u 4550891663906995120,u 8199]]
def Z2:AV:= .agg [j 1,.ap false 2 [u 16425875146837966512,u 7236]]
def Z3:AV:= .agg [j 1,.ap false 2 [u 6571760590778580224,u 962]]
def Z4:AV:= .agg [j 1,.ap false 2 [u 7317039158807008176,u 500]]
def Z5:AV:= .agg [j 1,.ap false 2 [u 13725959645672295376,u 280947206]]
def Z6:AV:= .agg [j 1,.ap false 2 [u 17701465505681123664,u 461]]
def Z7:AV:= .agg [j 1,.ap false 2 [u 8062317726835436128,u 38]]
def Z8:AV:= .agg [j 1,.ap false 1 [u 13187373152203648208]]
def Z9:AV:= .agg [j 1,w [10107815461005042512]]
def RU:AV:= .agg [j 1,v183]
def aaa:AV:= .agg [j 1,.ap false 3 [u 9267470758912408848,u 17447578655697668941,u 33219]]
def aab:AV:= .agg [j 1,.ap false 3 [u 261507163619642192,u 822126442853612486,u 10655]]
def aac:AV:= .agg [j 1,.ap false 3 [u 8482949268053482272,u 14981199327136831483,u 1254]]
def aad:AV:= .agg [j 1,.ap false 3 [u 10316584582117133664,u 13918965476187210352,u 264504]]
def aae:AV:= .agg [j 1,.ap false 3 [u 9966879974382225392,u 15095169869357363215,u 187409]]
def aaf:AV:= .agg [j 1,.ap false 3 [u 349704607734908272,u 17270539680539398753,u 77094]]
def aag:AV:= .agg [j 1,.ap false 3 [u 1836720482789807440,u 10567391271835021952,u 451914]]
def aah:AV:= .agg [j 1,.ap false 3 [u 6833769732649472624,u 41619165242384851,u 8476062]]
def aai:AV:= .agg [j 1,.ap false 3 [u 2890163405146426688,u 3536336812359135601,u 2975992]]
def aaj:AV:= .agg [j 1,.ap false 3 [u 1053442922356619248,u 11415689614233665265,u 2524077]]
def aak:AV:= .agg [j 1,.ap false 3 [u 6184889314029990480,u 10099740341725821930,u 616]]
def aal:AV:= .agg [j 1,.ap false 3 [u 7834891934531719632,u 7197531120445425756,u 31380170]]
def aam:AV:= .agg [j 1,.ap false 3 [u 9723933137795899312,u 3577955977601520452,u 11452054]]
def aan:AV:= .agg [j 1,.ap false 3 [u 14559914713703052928,u 13228462717394739238,u 21]]
def aao:AV:= .agg [j 1,.ap false 3 [u 4335646951954644048,u 8637665728864155564,u 8]]
def aap:AV:= .agg [j 1,.ap false 3 [u 5888620809793764832,u 14399875333375979726,u 4]]
def aaq:AV:= .agg [j 1,.ap false 3 [u 16893770215870430832,u 12684534469197727453,u 3]]
def aar:AV:= .agg [j 1,.ap false 2 [u 6661453620722869216,u 137373287425702591]]
def aas:AV:= .agg [j 1,.ap false 2 [u 3771208457272940912,u 40786512933943980]]
def aat:AV:= .agg [j 1,.ap false 2 [u 13794572322613598096,u 15013748623870650]]
def aau:AV:= .agg [j 1,.ap false 2 [u 10432662077995810128,u 178159800359646571]]
def aav:AV:= .agg [j 1,.ap false 2 [u 13075551959464847952,u 10759015686202678]]
def aaw:AV:= .agg [j 1,.ap false 2 [u 719020363148750144,u 4254732937667972]]
def aax:AV:= .agg [j 1,.ap false 2 [u 11637511233167347664,u 2249549810866734]]
def aay:AV:= .agg [j 1,.ap false 2 [u 13015730286681325600,u 7538511876662970636]]
def aaz:AV:= .agg [j 1,.ap false 2 [u 18303622241689337648,u 5085061184561862614]]
def aaA:AV:= .agg [j 1,.ap false 2 [u 13158852118701539568,u 2453450692101108021]]
def aaB:AV:= .agg [j 1,.ap false 3 [u 7441594667632885616,u 1715340864178252272,u 1]]
def aaC:AV:= .agg [j 1,.ap false 2 [u 7528253203690954096,u 2005183126801237]]
def aaD:AV:= .agg [j 1,.ap false 2 [u 4109258029476393568,u 244366684065497]]
def aaE:AV:= .agg [j 1,.ap false 2 [u 11547677115298908784,u 50249654277259]]
def aaF:AV:= .agg [j 1,.ap false 2 [u 13258781789409413280,u 43368066956458]]
def aaG:AV:= .agg [j 1,.ap false 2 [u 16735639399599047120,u 6881587320800]]
def aaH:AV:= .agg [j 1,.ap false 2 [u 14569274984651841296,u 430427458]]
def aaI:AV:= .agg [j 1,.ap false 2 [u 10013737208167830608,u 282104579]]
def aaJ:AV:= .agg [j 1,.ap false 2 [u 4555537776484010688,u 148322879]]
def aaK:AV:= .agg [j 1,.ap false 2 [u 5078665760362888640,u 2078543031653]]
def aaL:AV:= .agg [j 1,.ap false 2 [u 1499642118510381200,u 645958225841]]
def aaM:AV:= .agg [j 1,.ap false 2 [u 11331934866641240592,u 3577201370]]
def aaN:AV:= .agg [j 1,.ap false 2 [u 12950604925646540944,u 2003814414]]
def aaO:AV:= .agg [j 1,.ap false 2 [u 16828074014704251264,u 1573386955]]
def aaP:AV:= .agg [j 1,.ap false 2 [u 579739404831745040,u 140668354130]]
def aaQ:AV:= .agg [j 1,.ap false 2 [u 17627428572892952656,u 83284809320]]
def aaR:AV:= .agg [j 1,.ap false 2 [u 1399054905648344000,u 57383544809]]
def aaS:AV:= .agg [j 1,.ap false 2 [u 16228373667244608656,u 25901264511]]
def aaT:AV:= .agg [j 1,.ap false 2 [u 5835795718578229920,u 5581015785]]
def aaU:AV:= .agg [j 1,.ap false 2 [u 5458199431683819920,u 133781700]]
def aaV:AV:= .agg [j 1,.ap false 2 [u 17544082418509742384,u 14541178]]
def aaW:AV:= .agg [j 1,.ap false 2 [u 13582154328482103008,u 2911089]]
def aaX:AV:= .agg [j 1,.ap false 2 [u 11931193853426722832,u 2]]
def aaY:AV:= .agg [j 1,.ap false 2 [u 1183178196907373840,u 2]]
def aaZ:AV:= .agg [j 1,.ap false 1 [u 10748015656519348992]]
def aa0:AV:= .agg [j 1,.ap false 2 [u 6765365049588146096,u 27]]
def aa1:AV:= .agg [j 1,.ap false 2 [u 83271609768439104,u 10]]
def aa2:AV:= .agg [j 1,.ap false 2 [u 6598821830051267888,u 7]]
def aa3:AV:= .agg [j 1,.ap false 2 [u 108953252000433584,u 2896820]]
def aa4:AV:= .agg [j 1,.ap false 2 [u 13473201076481669424,u 14269]]
def aa5:AV:= .agg [j 1,.ap false 2 [u 13614001708944731296,u 64]]
def Mv:AV:= .af [v10,v10]
def ES:AV:= .agg [jl,v1]
def HX:AV:= .agg [v0,v1]
def Mw:AV:= .agg [v12,v5]
def RW:AV:= .agg [v5,oW]
def Mx:AV:= .agg [v0,v0]
def aa6:AV:= .agg [j 1,QV,j 2,.aa]
def aa7:AV:= .agg [v6,v6,jl,jl]
def My:AV:= .agg [v0,v0,v1,v1]
def RX:AV:= .ap true 2 [v6,v5]
def RY:AV:= .ap true 3 [v1,v5,.str [54]]
def RZ:AV:= .ap true 2 [v2,v0]
def R0:AV:= .ap true 2 [v0,v2]
def R1:AV:= .ap true 3 [v0,v1,v6]
def R2:AV:= .af [.agg [Ns,oW],j 0]
def aa8:AV:= .af [.agg [v234,oE],j 0]
def aa9:AV:= .af [.agg [v232,v233],j 0]
def aba:AV:= .af [.agg [Q0,Rc],j 0]
def abb:AV:= .af [.agg [v236,QZ],j 0]
def CR:AV:= .ap true 2 [CQ,RX]
def ET:AV:= .ap true 2 [RZ,R0]
def CS:AV:= .ap true 2 [R1,RY]
def am2:AV:= .af [.agg [v0,v0,qK,qK],j 0]
def am3:AV:= .af [.agg [fI,fI,fI,fI],j 0]
def am4:AV:= .af [.agg [oE,oE],j 0]
def als:aq:=[.m 55467 [CQ,CQ] (.bool true) (.m 51820 [HP,HP] (.bool true) (.o 38327 [HQ,HQ] (.bool true))
 (.l))
 (.m 63514 [HR,HR] (.bool true) (.o 60170 [HS,HS] (.bool true))
 (.l))]
def alt:aq:=[.o 31699 [.ap false 3 [j 0,j 2,j 1],.ap true 3 [j 0,j 2,j 1]] (.bool true)]
def alu:aq:=[.m 28700 [v7] (.str [45,53]) (.m 28694 [v8] (v1) (.m 28693 [v9] (v0) (.o 28692 [v10] (v2))
 (.l))
 (.o 28696 [v11] (v12)))
 (.m 29192 [v13] (.str [53,48,48]) (.o 28702 [rO] (Ns))
 (.o 29399 [jk] (.str [55,48,55]))),
 .m 28700 [cI] (oW) (.o 28696 [bN] (v5))
 (.l)]
def k0:List (Nat×aq):=[(29,als),(59,alt),(99,alu)]
def alv:aq:=[.m 28892 [v20] (.str [50,48,48]) (.m 28695 [v21] (v6) (.m 28692 [v22] (jl) (.o 9412 [v24] (.str [49,49,49,56,52,56,49,49]))
 (.o 28694 [v25] (qK)))
 (.m 28698 [v27] (.str [54]) (.o 28697 [v28] (fI))
 (.o 28869 [v30] (.str [49,55,55]))))
 (.m 29692 [v31] (.str [49,48,48,48]) (.m 28975 [v32] (.str [50,56,51]) (.o 28942 [v33] (.str [50,53,48]))
 (.o 29044 [v34] (.str [45,49,55,55])))
 (.m 36372 [v35] (.str [51,51,53,53,52,52,51,50]) (.o 30104 [v36] (.str [45,55,48,55]))
 (.l)))]
def aj9:aq:=[.m 40563 [v9,v37] (v37) (.o 40562 [v10,v37] (v10))
 (.l)]
def k1:List (Nat×aq):=[(99,alv),(100,aj9)]
def aka:aq:=[.m 38203 [cI,v9] (cI) (.m 38198 [v21,v9] (v21) (.m 38196 [v9,v9] (v9) (.o 38195 [v22,v9] (v22))
 (.o 38197 [v8,v9] (v8)))
 (.m 38201 [v38,v9] (v38) (.o 38199 [v11,v9] (v11))
 (.l)))
 (.m 38985 [v9,bN] (bN) (.m 38459 [v9,v8] (v8) (.o 38205 [rO,v9] (rO))
 (.o 38984 [v22,v11] (v21)))
 (.m 40037 [v9,cI] (cI) (.o 38986 [v8,v11] (rO))
 (.l))),
 .m 38984 [v22,bN] (v38) (.o 38199 [bN,v9] (bN))
 (.o 38986 [v8,bN] (cI))]
def k2:List (Nat×aq):=[(100,aka)]
def akb:aq:=[.m 39510 [v10,v27] (v10) (.m 38201 [v27,v9] (v27) (.m 37934 [v8,v22] (v25) (.m 37932 [v22,v22] (v9) (.o 36640 [v8,SV] (v40))
 (.l))
 (.o 38197 [v25,v9] (v25)))
 (.m 38460 [v8,v8] (bN) (.o 38458 [v22,v8] (v25))
 (.o 38988 [bN,bN] (fp))))
 (.m 40572 [v37,v37] (v42) (.m 39848 [v31,v31] (SV) (.o 39747 [cI,Dk] (v44))
 (.o 40036 [v10,cI] (v10)))
 (.m 64233 [v9,v42] (v42) (.o 42156 [fp,fp] (Dk))
 (.o 64242 [v37,v42] (v31))))]
def k3:List (Nat×aq):=[(100,akb)]
def akc:aq:=[.m 46102 [AG,v9] (AG) (.m 25125 [Yg,dI] (Yh) (.m 20968 [v46,v46] (Yi) (.m 19736 [v10,Nt] (v10) (.o 14861 [.agg [j 10000000,.aa],v48] (v49))
 (.l))
 (.o 22125 [v42,v46] (Nt)))
 (.m 39210 [Yj,v8] (AG) (.o 26453 [v50,Nt] (amG))
 (.o 42749 [bJ,dI] (Yk))))
 (.m 54941 [Nt,Yi] (bJ) (.m 51345 [.agg [j 1,v51],dI] (Yl) (.o 48092 [v31,SW] (.agg [j 10000000,.aa]))
 (.o 54528 [v48,v48] (v46)))
 (.m 63598 [amH,v49] (amI) (.o 57092 [SW,SW] (v48))
 (.o 64332 [v42,v42] (SW))))]
def k4:List (Nat×aq):=[(100,akc)]
def akd:aq:=[.m 38534 [Ym,dI] (Yn) (.m 15100 [Yo,dI] (Yp) (.m 7612 [.agg [j 1,v53],dI] (Yq) (.m 3239 [.agg [j 1,SX],dI] (Yr) (.o 1139 [Ys,dI] (Yt))
 (.l))
 (.o 14466 [Rv,dI] (Yu)))
 (.m 24752 [.agg [j 1,SY],dI] (Yv) (.o 21686 [Yw,dI] (Yx))
 (.o 30765 [.agg [j 1,SZ],dI] (Yy))))
 (.m 44660 [Rw,dI] (Yz) (.m 42033 [YA,dI] (YB) (.o 39135 [Ry,dI] (YC))
 (.o 44380 [YD,dI] (YE)))
 (.m 58192 [YF,dI] (YG) (.o 51616 [YH,dI] (YI))
 (.o 60912 [Rz,dI] (YJ))))]
def k5:List (Nat×aq):=[(100,akd)]
def ake:aq:=[.m 39915 [YK,dI] (YL) (.m 20531 [v57,dI] (YM) (.m 9412 [v58,dI] (YN) (.m 5118 [v59,dI] (YO) (.o 1081 [v60,dI] (YP))
 (.l))
 (.o 9415 [YQ,dI] (YR)))
 (.m 27485 [S3,dI] (YS) (.o 21645 [YT,dI] (YU))
 (.o 35756 [.agg [j 1,S4],dI] (YV))))
 (.m 45962 [YW,dI] (YX) (.m 44737 [RA,dI] (YY) (.o 44520 [v63,dI] (YZ))
 (.o 44885 [Y0,dI] (Y1)))
 (.m 57180 [Y2,dI] (Y3) (.o 54647 [RB,dI] (Y4))
 (.o 59662 [v64,dI] (Y5))))]
def k6:List (Nat×aq):=[(100,ake)]
def akf:aq:=[.m 38722 [v9,v21] (v21) (.m 37933 [v9,v22] (v22) (.m 21012 [v65,dI] (Y6) (.m 20245 [v66,dI] (Y7) (.o 9837 [v49,Yi] (oF))
 (.l))
 (.o 30658 [S5,dI] (Y8)))
 (.m 38462 [v11,v8] (rO) (.o 38203 [v7,v9] (v7))
 (.o 38463 [v28,v8] (v37))))
 (.m 40036 [v22,cI] (.agg [j (-8),.aa]) (.m 38987 [v21,bN] (v68) (.o 38984 [v10,bN] (v10))
 (.o 38992 [cI,bN] (v69)))
 (.m 51247 [v70,dI] (Y9) (.o 40038 [v8,cI] (fp))
 (.o 51252 [IE,dI] (Za))))]
def k7:List (Nat×aq):=[(100,akf)]
def akg:aq:=[.m 37938 [v38,v22] (bN) (.m 37935 [v21,v10] (v10) (.m 37933 [v9,v10] (v10) (.o 37932 [v10,v22] (v10))
 (.o 37934 [v8,v10] (v10)))
 (.m 37937 [v28,v10] (v10) (.o 37936 [bN,v10] (v10))
 (.l)))
 (.m 38985 [v9,v11] (v11) (.m 38206 [v72,v9] (v72) (.o 38200 [v28,v9] (v28))
 (.o 38723 [v8,v21] (v27)))
 (.m 64232 [v10,v42] (v10) (.o 38989 [v28,v11] (v73))
 (.l))),
 .m 37934 [v25,v22] (v8) (.o 37932 [v10,v10] (v10))
 (.l),
 .o 37934 [v25,v10] (v10)]
def k8:List (Nat×aq):=[(100,akg)]
def akh:aq:=[.m 39575 [v9,v48] (v48) (.m 38458 [v10,v25] (v10) (.m 26622 [v9,v35] (v35) (.m 18915 [v24,v9] (v24) (.o 157 [.agg [j (-11184810),.aa],v21] (.agg [j (-33554430),.aa]))
 (.l))
 (.o 37938 [v38,v10] (v10)))
 (.m 38460 [v8,v25] (v38) (.o 38459 [v9,v25] (v25))
 (.o 39574 [v10,v48] (v10))))
 (.m 42036 [nV,v9] (nV) (.m 39741 [v8,Dk] (.agg [j 512,.aa]) (.o 39740 [v9,Dk] (Dk))
 (.o 39995 [Dk,Dk] (v75)))
 (.m 42389 [.agg [j 512,.aa],v75] (v35) (.o 42133 [Dk,v75] (v76))
 (.o 45875 [v35,v9] (v35))))]
def k9:List (Nat×aq):=[(100,akh)]
def ahe:aq:=[.m 38462 [v11,v25] (v27) (.m 38458 [v10,v8] (v10) (.m 38195 [v10,v9] (v10) (.o 37936 [v11,v10] (v10))
 (.l))
 (.o 38461 [v21,v25] (rO)))
 (.m 42035 [v76,v9] (v76) (.o 38721 [v22,v21] (v11))
 (.o 42296 [.agg [j (-8388608),.aa],v8] (.agg [j (-16777216),.aa]))),
 .m 38721 [v10,v21] (v10) (.o 38461 [v21,v8] (v27))
 (.l)]
def ahf:aq:=[.m 38201 [v38,v9] (rP) (.m 38197 [v25,v9] (fA) (.o 38196 [v9,v9] (cf))
 (.o 38198 [v21,v9] (v80)))
 (.m 38205 [rO,v9] (qM) (.o 38203 [cI,v9] (v82))
 (.l))]
def k10:List (Nat×aq):=[(100,ahe),(101,ahf)]
def ahg:aq:=[.m 38200 [v28,v9] (v83) (.m 38197 [v8,v9] (v84) (.m 38195 [v22,v9] (v85) (.o 7044 [v40,v9] (v86))
 (.l))
 (.o 38199 [bN,v9] (v87)))
 (.m 38206 [v72,v9] (IF) (.o 38201 [v27,v9] (qO))
 (.o 38223 [v73,v9] (v90))),
 .m 38199 [v11,v9] (v91) (.o 38195 [v10,v9] (bM))
 (.l)]
def ahh:aq:=[.m 16302 [v93] (v94) (.m 5359 [fA] (v84) (.o 5357 [bM] (bM))
 (.l))
 (.m 30898 [Fw] (v96) (.o 30896 [IG] (Bm))
 (.l)),
 .o 5357 [v85] (cf)]
def k11:List (Nat×aq):=[(101,ahg),(102,ahh)]
def ahi:aq:=[.m 5361 [v91] (v80) (.m 5359 [v84] (fA) (.o 5358 [cf] (v85))
 (.o 5360 [v80] (v91)))
 (.m 9005 [kR] (fk) (.o 7277 [Xb] (ami))
 (.o 51597 [Xc] (amj)))]
def ahj:aq:=[.m 9006 [fk] (.bool false) (.m 5365 [v82] (.bool false) (.m 5361 [v91] (.bool false) (.o 5357 [bM] (.bool false))
 (.l))
 (.o 5367 [qM] (.bool false)))
 (.m 30894 [v105] (.bool false) (.o 9013 [HF] (.bool false))
 (.o 57349 [v107] (.bool false))),
 .o 5361 [v87] (.bool false)]
def k12:List (Nat×aq):=[(102,ahi),(107,ahj)]
def ahk:aq:=[.m 12653 [EQ] (.bool false) (.m 5360 [v80] (.bool false) (.m 5359 [fA] (.bool false) (.o 5358 [cf] (.bool false))
 (.l))
 (.m 10861 [v109] (.bool false) (.o 5362 [v83] (.bool false))
 (.l)))
 (.m 47466 [QR] (.bool false) (.m 46761 [QS] (.bool false) (.o 12655 [oD] (.bool false))
 (.l))
 (.m 62288 [QT] (.bool false) (.o 62113 [QU] (.bool false))
 (.l))),
 .o 5359 [v84] (.bool false)]
def ahl:aq:=[.m 5359 [v84] (j 1) (.m 5358 [cf] (j 1) (.o 5357 [v85] (j (-1)))
 (.l))
 (.o 5361 [v87] (j 1))]
def k13:List (Nat×aq):=[(107,ahk),(108,ahl)]
def ahm:aq:=[.m 9005 [kR] (j (-1)) (.m 5360 [v80] (j 1) (.m 5359 [fA] (j (-1)) (.o 5357 [bM] (j 0))
 (.l))
 (.o 5361 [v91] (j (-1))))
 (.m 9198 [HG] (j 1) (.o 9009 [CP] (j (-1)))
 (.o 12654 [v117] (j 1)))]
def ahn:aq:=[.m 28695 [v21] (v80) (.m 28693 [v9] (cf) (.o 28692 [v22] (v85))
 (.o 28694 [v8] (v84)))
 (.m 28700 [cI] (v82) (.o 28696 [v11] (v91))
 (.l)),
 .m 28696 [bN] (v87) (.o 28692 [v10] (bM))
 (.l)]
def k14:List (Nat×aq):=[(108,ahm),(111,ahn)]
def aho:aq:=[.m 28703 [v72] (IF) (.m 28694 [v25] (fA) (.m 9412 [v24] (Xd) (.o 9411 [ER] (Xc))
 (.l))
 (.m 28698 [v38] (rP) (.o 28697 [v28] (v83))
 (.l)))
 (.m 36599 [AG] (.agg [j 1,v45,j 1,.aa]) (.m 32533 [nV] (HG) (.o 30612 [Xe] (Xb))
 (.l))
 (.o 45877 [SV] (amk))),
 .o 28698 [v27] (qO)]
def ahp:aq:=[.m 38721 [v10,v21] (v21) (.m 38458 [v10,v8] (v8) (.o 38195 [v10,v9] (v9))
 (.l))
 (.m 39247 [v10,v28] (v28) (.o 38984 [v10,bN] (bN))
 (.l))]
def k15:List (Nat×aq):=[(111,aho),(119,ahp)]
def ahq:aq:=[.m 38197 [v8,v9] (v21) (.m 35436 [v10,v50] (v50) (.m 19324 [amG,.agg [j 846264338327950288,.aa]] (amH) (.m 18102 [pX,pX] (Xf) (.o 17316 [v124,.agg [j 1411,.aa]] (Xf))
 (.l))
 (.o 34584 [v44,.agg [j 976,.aa]] (.agg [j 3024,.aa])))
 (.m 37934 [v8,v10] (v8) (.o 37933 [v9,v10] (v9))
 (.o 38196 [v9,v9] (v8))))
 (.m 39609 [pX,v9] (HH) (.m 38684 [amI,.agg [j 419716939937510,.aa]] (Yj) (.o 38459 [v9,v8] (v21))
 (.o 39510 [v10,v27] (v27)))
 (.m 58641 [bJ,.agg [j (-1),v51]] (amJ) (.o 40036 [v10,cI] (cI))
 (.o 59525 [Xg,.agg [j 1322,.aa]] (.agg [j 2834,.aa]))))]
def k16:List (Nat×aq):=[(119,ahq)]
def ahr:aq:=[.m 22725 [amK,v59] (amL) (.m 12706 [amM,RB] (amN) (.m 10257 [amO,.agg [j (-1),SX]] (amP) (.m 6588 [amQ,.agg [j (-1),v53]] (amR) (.o 3745 [amS,.agg [j (-1),SY]] (amT))
 (.l))
 (.o 12138 [amU,.agg [j (-1),SZ]] (amV)))
 (.m 18235 [amR,RA] (amW) (.o 17430 [amV,Rz] (amO))
 (.o 22433 [amX,.agg [j (-91810290),.aa]] (amY))))
 (.m 53337 [amJ,Rw] (amU) (.m 31748 [amW,.agg [j (-1),S4]] (amM) (.o 29295 [amL,.agg [j (-268556931493155),.aa]] (amZ))
 (.o 43670 [amT,Rv] (amQ)))
 (.m 60309 [amN,.agg [j (-1),w [3045029095724553698,25]]] (amK) (.o 57735 [amP,Ry] (amS))
 (.o 63469 [amZ,S3] (amX))))]
def k17:List (Nat×aq):=[(119,ahr)]
def ahs:aq:=[.m 39609 [v127,v9] (v36) (.m 38930 [RC,SV] (HT) (.m 38461 [v21,v8] (v28) (.m 37932 [v10,v10] (v10) (.o 37110 [RC,.agg [j (-1000000),.aa]] (HU))
 (.l))
 (.o 38902 [jk,v9] (AD)))
 (.m 39510 [v22,v27] (v28) (.o 39344 [v36,v22] (v127))
 (.o 39514 [bN,v38] (v10))))
 (.m 40570 [cI,rO] (v8) (.m 40044 [cI,v7] (v21) (.o 40040 [v11,cI] (v28))
 (.o 40224 [am0,v10] (RC)))
 (.m 45221 [amY,S5] (am1) (.o 41620 [v38,.agg [j (-8),.aa]] (Mk))
 (.o 54689 [am1,.agg [j (-19),.aa]] (am0))))]
def k18:List (Nat×aq):=[(119,ahs)]
def aht:aq:=[.m 38985 [v9,bN] (v28) (.m 37937 [v28,v10] (v28) (.m 37932 [v22,v10] (v22) (.m 29936 [nV,.agg [j (-16777216),.aa]] (v9) (.o 21412 [v35,.agg [j (-33554430),.aa]] (v8))
 (.l))
 (.o 37935 [v21,v10] (v21)))
 (.m 38725 [v11,v21] (v10) (.o 38460 [v8,v25] (v10))
 (.o 38984 [v10,v11] (v11))))
 (.m 40568 [v27,rO] (v10) (.m 39515 [v28,v38] (v9) (.o 38987 [v21,v11] (v10))
 (.o 40566 [bN,rO] (v25)))
 (.m 45307 [v72,v73] (v38) (.o 40825 [v10,v72] (v72))
 (.o 65300 [v10,nV] (nV))))]
def k19:List (Nat×aq):=[(119,aht)]
def ahu:aq:=[.m 37934 [v25,v10] (v25) (.o 37932 [v10,v22] (v22))
 (.o 38460 [v25,v8] (v10))]
def ahv:aq:=[.m 26590 [.bool false,j 4] (j 0) (.m 26064 [.bool false,j 2] (j 0) (.o 25801 [.bool false,j 1] (j 0))
 (.o 26327 [.bool false,j 3] (j 0)))
 (.m 28431 [.bool false,j 11] (j 0) (.o 26853 [.bool false,j 5] (j 0))
 (.o 28694 [.bool false,j 12] (j 0)))]
def ahw:aq:=[.m 34670 [.ap true 3 [j 0,j 0,j 0]] (j 0) (.o 27379 [.ap true 2 [j 0,j 0]] (j 0))
 (.o 51832 [.ap true 4 [j 0,j 0,j 0,j 0]] (j 0))]
def ahx:aq:=[.m 2148 [v1] (.bool true) (.o 2147 [v0] (.bool true))
 (.o 2151 [fI] (.bool true))]
def k20:List (Nat×aq):=[(119,ahu),(124,ahv),(125,ahw),(129,ahx)]
def ahy:aq:=[.m 2152 [.str [54]] (.bool true) (.m 2149 [v6] (.bool true) (.o 2146 [v2] (.bool true))
 (.o 2150 [v5] (.bool true)))
 (.m 15011 [v130] (.bool true) (.o 2154 [oW] (.bool true))
 (.o 15572 [v131] (.bool true)))]
def ahz:aq:=[.m 38466 [v7,v8] (.af [v11,v9]) (.m 38199 [bN,v9] (.af [bN,v10]) (.m 38197 [v8,v9] (Mt) (.o 38196 [v9,v9] (HV))
 (.l))
 (.o 38463 [v28,v8] (.af [v8,v9])))
 (.m 38985 [v9,bN] (HW) (.m 38749 [v73,v21] (.af [v7,v10]) (.o 38727 [v27,v21] (Mt))
 (.l))
 (.o 39525 [HI,v27] (.af [v8,v21])))]
def k21:List (Nat×aq):=[(129,ahy),(164,ahz)]
def ahA:aq:=[.m 38466 [cI,v8] (.af [bN,v10]) (.m 38459 [v9,v8] (HW) (.m 21237 [v40,v44] (.af [.agg [j 976,.aa],.agg [j 1152,.aa]]) (.m 11311 [v40,Xg] (.af [.agg [j 1322,.aa],.agg [j 1136,.aa]]) (.o 7044 [v40,v9] (.af [v40,v10]))
 (.l))
 (.o 38203 [cI,v9] (.af [cI,v10])))
 (.m 38461 [v21,v8] (.af [v9,v9]) (.o 38460 [v8,v8] (HV))
 (.o 38462 [bN,v8] (Mt))))
 (.m 41286 [Xf,v8] (.af [pX,v10]) (.m 40037 [v9,cI] (HW) (.o 38986 [v8,bN] (Mu))
 (.o 40038 [v8,cI] (Mu)))
 (.m 41482 [.agg [j 3024,.aa],v8] (.af [Xg,v10]) (.o 41292 [.agg [j 2834,.aa],v8] (.af [v124,v10]))
 (.o 51847 [v40,v124] (.af [.agg [j 1411,.aa],.agg [j 613,.aa]]))))]
def k22:List (Nat×aq):=[(164,ahA)]
def ahB:aq:=[.m 40262 [pX,v31] (.af [v9,Xh]) (.m 38464 [v27,v8] (RD) (.m 17536 [Xi,Xj] (.af [v8,Xk]) (.m 17035 [v31,Xi] (.af [v8,Xj]) (.o 16772 [v31,Xh] (.af [v8,Xl]))
 (.l))
 (.o 18061 [Xh,Xl] (.af [v8,v138])))
 (.m 39542 [v69,v27] (.af [v28,v8]) (.o 39458 [v31,v8] (.af [v13,v10]))
 (.o 39872 [pX,v8] (.af [jk,v10]))))
 (.m 46418 [v138,v69] (.af [v8,v27]) (.m 41897 [v139,HI] (.af [v9,v28]) (.o 40263 [HH,v31] (.af [v9,Xi]))
 (.o 43267 [Xk,v139] (.af [v21,HI])))
 (.m 56514 [Xl,v138] (.af [v8,v69]) (.o 51058 [v40,pX] (.af [pX,.agg [j 604,.aa]]))
 (.o 57827 [Xj,Xk] (.af [v8,v139]))))]
def k23:List (Nat×aq):=[(164,ahB)]
def ahC:aq:=[.m 39511 [v9,v27] (HW) (.m 37218 [RE,v68] (.af [Rw,v27]) (.m 16985 [Yl,bJ] (.af [Yw,.agg [j 1,.ap false 3 [u 1235828631747698810,u 1079552342813895860,u 113493716422]]]) (.m 15847 [Yx,bJ] (.af [RE,.agg [j 1,.ap false 3 [u 7173920219356902912,u 14913013201911312773,u 249251386827]]]) (.o 2872 [.agg [j 1,QV],v8] (.af [dI,v9]))
 (.l))
 (.o 26707 [Yz,bJ] (.af [YA,.agg [j 1,.ap false 3 [u 1746377658667505148,u 1599727212568632173,u 227174926597]]])))
 (.m 38992 [cI,bN] (Mt) (.o 38201 [v27,v9] (.af [v27,v10]))
 (.o 39262 [HI,v28] (RD))))
 (.m 45348 [RF,v8] (.af [.agg [j 1,v51],v9]) (.m 40662 [HH,v28] (.af [v32,v10]) (.o 40247 [v31,v28] (.af [v20,v10]))
 (.o 44631 [Yh,bJ] (.af [RF,.agg [j 1,.ap false 3 [u 421539611954999217,u 13196361294450075735,u 272546525667]]])))
 (.m 47943 [AG,cI] (.af [dI,bN]) (.o 46891 [AG,bN] (.af [.agg [j 1,QV],v10]))
 (.o 51269 [Yk,bJ] (.af [Yg,v10]))))]
def k24:List (Nat×aq):=[(164,ahC)]
def ahD:aq:=[.m 39824 [YI,bJ] (.af [RG,.agg [j 1,.ap false 3 [u 3957293859378521763,u 1070264078444544701,u 39820490084]]]) (.m 23221 [YB,bJ] (.af [RH,.agg [j 1,.ap false 3 [u 5049880919036410662,u 15456940594375998285,u 108881395591]]]) (.m 12502 [RH,v141] (.af [.agg [j 1,SZ],.agg [j 18,.aa]]) (.m 6417 [Yv,bJ] (.af [Ym,.agg [j 1,.ap false 3 [u 2236115821013113877,u 5139296421525228835,u 214964783928]]]) (.o 1506 [Yy,bJ] (.af [Yo,.agg [j 1,.ap false 3 [u 1282353773684968516,u 3289625660447247870,u 196580211114]]]))
 (.l))
 (.o 21468 [RI,.agg [j 182,.aa]] (.af [.agg [j 1,SY],.agg [j 123,.aa]])))
 (.m 35418 [RJ,.agg [j 56,.aa]] (.af [Rz,bN]) (.o 25241 [YJ,bJ] (.af [YH,.agg [j 1,.ap false 3 [u 4818490623631867340,u 16394987128794677289,u 272389265430]]]))
 (.o 39132 [RG,.agg [j 90,.aa]] (.af [.agg [j 1,SX],v72]))))
 (.m 49018 [YE,bJ] (.af [RI,.agg [j 1,.ap false 3 [u 2523625169501610171,u 17067363556509273432,u 75021796449]]]) (.m 44138 [Yr,bJ] (.af [Ys,.agg [j 1,.ap false 3 [u 15320273221443061843,u 12503505949779772,u 151336667214]]]) (.o 40594 [Yn,bJ] (.af [RL,.agg [j 1,.ap false 3 [u 6473246494091955159,u 4262437969390320619,u 292627674578]]]))
 (.o 45093 [YC,bJ] (.af [YD,.agg [j 1,.ap false 3 [u 14523843154860188619,u 14361084977088776627,u 276609180204]]])))
 (.m 54294 [Yt,bJ] (.af [RM,.agg [j 1,.ap false 3 [u 15840774403327411665,u 11942699833789439100,u 140357623712]]]) (.o 51549 [RM,.agg [j 132,.aa]] (.af [Ry,.agg [j 50,.aa]]))
 (.o 58347 [Yp,bJ] (.af [RJ,.agg [j 1,.ap false 3 [u 17863603311630982995,u 11726035622108506063,u 25133904187]]]))))]
def k25:List (Nat×aq):=[(164,ahD)]
def ahE:aq:=[.m 27885 [Y1,bJ] (.af [RN,.agg [j 1,.ap false 3 [u 8746584666257613248,u 12575681850306854528,u 44808278737]]]) (.m 8933 [YG,bJ] (.af [RO,.agg [j 1,.ap false 3 [u 18170290448945823725,u 4863456854025250333,u 177576882805]]]) (.m 6609 [YV,bJ] (.af [Y0,.agg [j 1,.ap false 3 [u 1230989211628645002,u 1159565562802114719,u 17798937139]]]) (.m 5976 [YU,bJ] (.af [RP,.agg [j 1,.ap false 3 [u 15181002372271313457,u 15855354825785105609,u 127223305244]]]) (.o 5494 [RQ,.agg [j 462,.aa]] (.af [.agg [j 1,S4],.agg [j 109,.aa]]))
 (.l))
 (.o 8107 [RR,.agg [j 650,.aa]] (.af [Y2,.agg [j 138,.aa]])))
 (.m 16322 [Y4,bJ] (.af [YW,.agg [j 1,.ap false 3 [u 6359753310305933972,u 12002794089071725076,u 130763764821]]]) (.o 10208 [Yu,bJ] (.af [YF,.agg [j 1,.ap false 3 [u 2390991103675935201,u 2398540852768645950,u 183800717753]]]))
 (.o 17484 [RO,.agg [j 306,.aa]] (.af [.agg [j 1,v53],.agg [j 109,.aa]]))))
 (.m 50063 [Yq,bJ] (.af [YT,.agg [j 1,.ap false 3 [u 1363536335835424732,u 1604162463768968710,u 264198958956]]]) (.m 35274 [YX,bJ] (.af [RR,.agg [j 1,.ap false 3 [u 8799859423424730889,u 18345504288447267381,u 151275892387]]]) (.o 31596 [RN,.agg [j 552,.aa]] (.af [RB,.agg [j 265,.aa]]))
 (.o 46549 [YR,bJ] (.af [RQ,.agg [j 1,.ap false 3 [u 6844174947456487896,u 7934601446456017395,u 26722947584]]])))
 (.m 58276 [RP,.agg [j 380,.aa]] (.af [RA,.agg [j 160,.aa]]) (.o 52971 [YY,bJ] (.af [YQ,.agg [j 1,.ap false 3 [u 8692097415552468201,u 12762717506135777163,u 59332127679]]]))
 (.o 58578 [RL,.agg [j 240,.aa]] (.af [Rv,.agg [j 213,.aa]]))))]
def k26:List (Nat×aq):=[(164,ahE)]
def ahF:aq:=[.m 30325 [Y3,bJ] (.af [YK,.agg [j 1,.ap false 3 [u 1579144640813099602,u 7733978210614872140,u 131240361634]]]) (.m 18179 [QW,.agg [j 1122,.aa]] (.af [v60,.agg [j 771,.aa]]) (.m 9739 [YO,bJ] (.af [v64,.agg [j 1,.ap false 3 [u 7290936844905413076,u 11398232400322276176,u 7413401391]]]) (.m 9243 [Y5,bJ] (.af [v143,.agg [j 1,.ap false 3 [u 13587521312188827580,u 11758254733816970059,u 65734798861]]]) (.o 1584 [QX,.agg [j 992,.aa]] (.af [S3,.agg [j 817,.aa]]))
 (.l))
 (.o 13230 [YL,bJ] (.af [RS,.agg [j 1,.ap false 3 [u 349461191194858758,u 622604278883827451,u 36576459784]]])))
 (.m 26135 [YS,bJ] (.af [v58,.agg [j 1,.ap false 3 [u 16048122460062088079,u 6651628531624551829,u 221869364373]]]) (.o 18972 [Y7,bJ] (.af [v145,.agg [j 1,.ap false 3 [u 7609138115395105961,u 16981135940981975920,u 154323963535]]]))
 (.o 29390 [Y8,bJ] (.af [v65,.agg [j 1,.ap false 3 [u 8468261177957575298,u 8940698426691163316,u 148656560223]]]))))
 (.m 46446 [RS,.agg [j 756,.aa]] (.af [v59,v37]) (.m 32606 [YZ,bJ] (.af [v57,.agg [j 1,.ap false 3 [u 5065919791669400907,u 16506561736487297484,u 83028630264]]]) (.o 30929 [YM,bJ] (.af [QX,.agg [j 1,.ap false 3 [u 10858523675194609978,u 3257907593705100571,u 81099056982]]]))
 (.o 43783 [YN,bJ] (.af [QW,.agg [j 1,.ap false 3 [u 15490361791363993244,u 6078422657748804733,u 12337586889]]])))
 (.m 61455 [v143,.agg [j 870,.aa]] (.af [v63,.agg [j 217,.aa]]) (.o 57597 [YP,bJ] (.af [v66,.agg [j 1,.ap false 3 [u 6367995094100048354,u 17496855401415799788,u 43195630703]]]))
 (.o 64765 [v145,.agg [j 1260,.aa]] (.af [S5,.agg [j 1242,.aa]]))))]
def k27:List (Nat×aq):=[(164,ahF)]
def ahG:aq:=[.m 32691 [Zb,Zc] (.af [v8,Zd]) (.m 19705 [Ze,Zf] (.af [v8,Zg]) (.m 15280 [Za,bJ] (.af [v70,.agg [j 1,.ap false 3 [u 18072714473608393915,u 9602986640170551272,u 271117517166]]]) (.m 7995 [Zh,Zi] (.af [v28,Zj]) (.o 5343 [Zg,Zk] (.af [v8,Zh]))
 (.l))
 (.o 18392 [Y9,bJ] (.af [v37,.agg [j 1,.ap false 3 [u 8706354635702509598,u 17203401714586090397,u 292572987713]]])))
 (.m 25369 [Zk,Zh] (.af [v9,Zi]) (.o 20207 [Zi,Zj] (.af [v9,Zl]))
 (.o 27890 [Zl,Zb] (.af [v8,Zc]))))
 (.m 46786 [Y6,bJ] (.af [v146,.agg [j 1,.ap false 3 [u 6276526027401755076,u 4281137798239609278,u 163149191346]]]) (.m 42928 [Zf,Zg] (.af [v9,Zk]) (.o 42308 [v146,.agg [j 1406,.aa]] (.af [IE,.agg [j 1010,.aa]]))
 (.o 43711 [Zj,Zl] (.af [v9,Zb])))
 (.m 55096 [v37,.agg [j 1560,.aa]] (.af [v10,v37]) (.o 52492 [oF,Ze] (.af [Xm,Zf]))
 (.o 64035 [HU,oF] (.af [jk,Ze]))))]
def k28:List (Nat×aq):=[(164,ahG)]
def ahH:aq:=[.m 40200 [Zm,Zn] (.af [v21,Zo]) (.m 7360 [Zp,Zq] (.af [v8,Zr]) (.m 4417 [Zs,Zt] (.af [v8,Zu]) (.m 3666 [Zv,Zw] (.af [v8,Zs]) (.o 3318 [Zo,Zx] (.af [v9,Zy]))
 (.l))
 (.o 6857 [Zy,Zz] (.af [v148,ZA])))
 (.m 32256 [Zt,Zu] (.af [v9,Zm]) (.o 30442 [Zz,ZA] (.af [v9,Zp]))
 (.o 38006 [Zq,Zr] (.af [v9,ZB]))))
 (.m 58625 [Zu,Zm] (.af [v9,Zn]) (.m 52281 [Zx,Zy] (.af [v8,Zz]) (.o 42059 [Zn,Zo] (.af [v8,Zx]))
 (.o 53079 [Zd,Zv] (.af [cI,Zw])))
 (.m 62130 [ZA,Zp] (.af [v21,Zq]) (.o 60543 [Zc,Zd] (.af [v21,Zv]))
 (.o 62949 [Zw,Zs] (.af [.agg [j 28,.aa],Zt]))))]
def k29:List (Nat×aq):=[(164,ahH)]
def ahI:aq:=[.m 42089 [ZC,ZD] (.af [v9,ZE]) (.m 32816 [ZF,ZG] (.af [v21,ZH]) (.m 14349 [ZI,ZJ] (.af [v9,ZF]) (.m 8250 [ZK,ZL] (.af [v9,ZM]) (.o 427 [ZN,ZO] (.af [v8,ZC]))
 (.l))
 (.o 30531 [Zr,ZB] (.af [v8,ZK])))
 (.m 35160 [ZO,ZC] (.af [bN,ZD]) (.o 34538 [ZL,ZM] (.af [cI,ZI]))
 (.o 38102 [ZP,ZN] (.af [v9,ZO]))))
 (.m 58975 [ZG,ZH] (.af [v21,ZQ]) (.m 56034 [ZD,ZE] (.af [v9,ZR]) (.o 51753 [ZH,ZQ] (.af [bN,ZP]))
 (.o 57997 [ZJ,ZF] (.af [v27,ZG])))
 (.m 62478 [ZM,ZI] (.af [bN,ZJ]) (.o 60603 [ZQ,ZP] (.af [v9,ZN]))
 (.o 64554 [ZB,ZK] (.af [v9,ZL]))))]
def k30:List (Nat×aq):=[(164,ahI)]
def ahJ:aq:=[.m 39774 [ZE,ZR] (.af [v9,ZS]) (.m 12557 [ZT,ZU] (.af [v28,ZV]) (.m 9680 [ZW,ZX] (.af [v141,ZY]) (.m 6224 [ZZ,ZW] (.af [QY,ZX]) (.o 2037 [Z0,ZZ] (.af [v9,ZW]))
 (.l))
 (.o 10228 [ZX,ZY] (.af [v9,ZT])))
 (.m 22616 [ZU,ZV] (.af [v9,Z1]) (.o 20970 [Z2,Z3] (.af [QY,Z4]))
 (.o 30027 [Z5,Z0] (.af [v9,ZZ]))))
 (.m 51390 [ZY,ZT] (.af [v9,ZU]) (.m 43866 [ZS,Z5] (.af [v9,Z0]) (.o 41638 [Z4,Z6] (.af [v9,Z7]))
 (.o 51301 [Z1,Z2] (.af [v9,Z3])))
 (.m 60015 [ZR,ZS] (.af [v21,Z5]) (.o 53305 [Z3,Z4] (.af [v9,Z6]))
 (.o 64052 [ZV,Z1] (.af [bN,Z2]))))]
def k31:List (Nat×aq):=[(164,ahJ)]
def ahK:aq:=[.m 44712 [Xn,Xo] (.af [v9,v152]) (.m 40942 [v152,Xp] (.af [.agg [j 34,.aa],v154]) (.m 30382 [Xq,Xr] (.af [v21,v157]) (.m 14716 [Xs,v159] (.af [v28,Xn]) (.o 9615 [v157,Xs] (.af [v9,v159]))
 (.l))
 (.o 35632 [Z8,Z9] (.af [v9,Xq])))
 (.m 41702 [Xo,v152] (.af [v9,Xp]) (.o 41184 [v159,Xn] (.af [v21,Xo]))
 (.o 44031 [v160,Xt] (.af [v8,v162]))))
 (.m 57848 [v154,v160] (.af [v8,Xt]) (.m 48081 [Xp,v154] (.af [v21,v160]) (.o 45650 [Xt,v162] (.af [v8,Xu]))
 (.o 51920 [Xr,v157] (.af [v9,Xs])))
 (.m 65078 [Z6,Z7] (.af [v68,Z8]) (.o 63534 [Z9,Xq] (.af [v21,Xr]))
 (.o 65371 [Z7,Z8] (.af [.agg [j 53,.aa],Z9]))))]
def k32:List (Nat×aq):=[(164,ahK)]
def ahL:aq:=[.m 27146 [v164,Xv] (.af [v9,Xw]) (.m 21221 [Xu,v167] (.af [v9,v168]) (.m 14870 [Xx,Xy] (.af [v8,v171]) (.m 8469 [Xy,v171] (.af [v9,Xz]) (.o 784 [v168,v173] (.af [QY,XA]))
 (.l))
 (.o 17574 [v167,v168] (.af [v27,v173])))
 (.m 23404 [Xz,v175] (.af [v9,XB]) (.o 22997 [v171,Xz] (.af [v9,v175]))
 (.o 23811 [XB,XC] (.af [HI,XD]))))
 (.m 39672 [XA,XE] (.af [v9,v164]) (.m 28595 [v162,Xu] (.af [v21,v167]) (.o 27866 [Xw,Xx] (.af [v8,Xy]))
 (.o 37525 [v175,XB] (.af [v9,XC])))
 (.m 57909 [v173,XA] (.af [v9,XE]) (.o 56169 [XE,v164] (.af [v21,Xv]))
 (.o 61745 [Xv,Xw] (.af [cI,Xx]))))]
def k33:List (Nat×aq):=[(164,ahL)]
def ahM:aq:=[.m 42172 [v69,fp] (Mt) (.m 12532 [XF,XG] (.af [v9,v182]) (.m 6351 [oF,fp] (.af [RU,v10]) (.m 6283 [XH,XI] (.af [v9,XJ]) (.o 2340 [XC,XD] (.af [v9,XK]))
 (.l))
 (.o 8026 [XL,XM] (.af [fp,XF])))
 (.m 27451 [v182,XH] (.af [v9,XI]) (.o 15608 [XK,XN] (.af [v9,XL]))
 (.o 37267 [XM,XF] (.af [v9,XG]))))
 (.m 50496 [XD,XK] (.af [bN,XN]) (.m 45726 [HU,fp] (.af [.agg [j 1,Ml],v10]) (.o 45514 [XN,XL] (.af [v9,XM]))
 (.o 46396 [HJ,v69] (.af [v9,fp])))
 (.m 59100 [XI,XJ] (.af [v9,HJ]) (.o 50636 [XJ,HJ] (.af [v9,v69]))
 (.o 62667 [XG,v182] (.af [v28,XH]))))]
def k34:List (Nat×aq):=[(164,ahM)]
def ahN:aq:=[.m 29580 [aaa,aab] (.af [v21,aac]) (.m 24387 [aad,aae] (.af [v9,aaf]) (.m 22936 [aag,aad] (.af [v9,aae]) (.m 13113 [aah,aai] (.af [v8,aaj]) (.o 9320 [aaj,aag] (.af [v28,aad]))
 (.l))
 (.o 23517 [aab,aac] (.af [cI,aak])))
 (.m 27037 [.agg [j 1,Ml],RU] (.af [jk,.agg [j 1,.ap false 3 [u 14324738801190271189,u 11979060741096308869,u 1961260]]]) (.o 24871 [aai,aaj] (.af [v9,aag]))
 (.o 27058 [oF,aal] (.af [Xm,aam]))))
 (.m 49943 [aae,aaf] (.af [v8,aaa]) (.m 41621 [aam,aah] (.af [v9,aai]) (.o 35557 [aac,aak] (.af [v8,aan]))
 (.o 49460 [aal,aam] (.af [v8,aah])))
 (.m 59199 [aaf,aaa] (.af [v8,aab]) (.o 54789 [aak,aan] (.af [.agg [j 28,.aa],aao]))
 (.o 61447 [HT,oF] (.af [jk,aal]))))]
def k35:List (Nat×aq):=[(164,ahN)]
def ahO:aq:=[.m 25367 [aao,aap] (.af [v9,aaq]) (.m 11202 [aar,aas] (.af [v21,aat]) (.m 8007 [aau,aar] (.af [v9,aas]) (.m 7261 [aas,aat] (.af [v8,aav]) (.o 5406 [aav,aaw] (.af [v8,aax]))
 (.l))
 (.o 9521 [aay,aaz] (.af [v9,aaA])))
 (.m 13303 [aaq,aaB] (.af [v21,aay]) (.o 13112 [aap,aaq] (.af [v9,aaB]))
 (.o 22598 [aat,aav] (.af [v9,aaw]))))
 (.m 37659 [aax,aaC] (.af [v9,aaD]) (.m 30810 [aaB,aay] (.af [v8,aaz]) (.o 26028 [aan,aao] (.af [v8,aap]))
 (.o 37362 [aaA,aau] (.af [v148,aar])))
 (.m 54823 [aaC,aaD] (.af [cI,aaE]) (.o 38763 [aaw,aax] (.af [v9,aaC]))
 (.o 58997 [aaz,aaA] (.af [v8,aau]))))]
def k36:List (Nat×aq):=[(164,ahO)]
def ahP:aq:=[.m 48740 [aaE,aaF] (.af [v9,aaG]) (.m 29196 [aaH,aaI] (.af [v9,aaJ]) (.m 26166 [aaG,aaK] (.af [v21,aaL]) (.m 15445 [aaM,aaN] (.af [v9,aaO]) (.o 2110 [aaP,aaQ] (.af [v9,aaR]))
 (.l))
 (.o 28034 [aaF,aaG] (.af [v27,aaK])))
 (.m 36435 [aaO,aaH] (.af [v21,aaI]) (.o 32421 [aaN,aaO] (.af [v9,aaH]))
 (.o 39631 [aaL,aaP] (.af [bN,aaQ]))))
 (.m 61107 [aaK,aaL] (.af [v21,aaP]) (.m 59592 [aaD,aaE] (.af [bN,aaF]) (.o 58482 [aaQ,aaR] (.af [v9,aaS]))
 (.o 59976 [aaT,aaM] (.af [v9,aaN])))
 (.m 62868 [aaR,aaS] (.af [v8,aaT]) (.o 61547 [aaS,aaT] (.af [bN,aaM]))
 (.o 64369 [aaI,aaJ] (.af [v9,aaU]))))]
def k37:List (Nat×aq):=[(164,ahP)]
def ahQ:aq:=[.m 33713 [aaU,aaV] (.af [Xm,aaW]) (.m 9872 [aaX,aaY] (.af [v9,aaZ]) (.m 6503 [aa0,aa1] (.af [v8,aa2]) (.m 3965 [aaY,aaZ] (.af [v21,v193]) (.o 774 [aaZ,v193] (.af [v9,v194]))
 (.l))
 (.o 8582 [aaJ,aaU] (.af [v9,aaV])))
 (.m 30773 [aaV,aaW] (.af [bN,aa3]) (.o 29779 [v194,XO] (.af [v28,v196]))
 (.o 32469 [XO,v196] (.af [v8,XP]))))
 (.m 50117 [aaW,aa3] (.af [v9,aa4]) (.m 48414 [aa2,aaX] (.af [v8,aaY]) (.o 35703 [aa3,aa4] (.af [.agg [j 203,.aa],aa5]))
 (.o 48797 [v193,v194] (.af [v9,XO])))
 (.m 54669 [aa4,aa5] (.af [.agg [j 220,.aa],aa0]) (.o 54303 [aa5,aa0] (.af [v8,aa1]))
 (.o 63286 [aa1,aa2] (.af [v9,aaX]))))]
def k38:List (Nat×aq):=[(164,ahQ)]
def ahR:aq:=[.m 46829 [v198,XQ] (.af [v8,XR]) (.m 31047 [v201,XS] (.af [v8,v203]) (.m 17845 [XQ,XR] (.af [v9,XT]) (.m 17713 [XU,v206] (.af [v9,XV]) (.o 6148 [XT,v208] (.af [v37,XW]))
 (.l))
 (.o 21982 [XS,v203] (.af [v9,v210])))
 (.m 38339 [XX,XU] (.af [v9,v206]) (.o 35400 [v203,v210] (.af [.agg [j 47,.aa],v212]))
 (.o 38829 [v196,XP] (.af [v9,XX]))))
 (.m 54432 [XP,XX] (.af [v21,XU]) (.m 49096 [v208,XW] (.af [v9,v201]) (.o 48535 [XY,v198] (.af [v9,XQ]))
 (.o 53394 [XW,v201] (.af [bN,XS])))
 (.m 58861 [XR,XT] (.af [v37,v208]) (.o 58558 [v206,XV] (.af [v9,XY]))
 (.o 62608 [XV,XY] (.af [.agg [j 27,.aa],v198]))))]
def k39:List (Nat×aq):=[(164,ahR)]
def ahS:aq:=[.m 43138 [HT,fp] (.af [.agg [j 1,Mm],v10]) (.m 26523 [XZ,X0] (.af [v21,X1]) (.m 10495 [.agg [j 1,Mm],RU] (.af [jk,.agg [j 1,.ap false 3 [u 14324738801190396189,u 11979060741096308869,u 1961260]]]) (.m 8735 [v218,X2] (.af [v37,X3]) (.o 3571 [X4,v218] (.af [v8,X2]))
 (.l))
 (.o 16928 [X0,X1] (.af [bN,v222])))
 (.m 39555 [jk,v31] (.af [v10,jk]) (.o 27726 [X5,X4] (.af [QY,v218]))
 (.o 42188 [HJ,fp] (RD))))
 (.m 55324 [v222,X6] (.af [cI,HJ]) (.m 48222 [X3,XZ] (.af [v21,X0]) (.o 47727 [v210,v212] (.af [bN,X5]))
 (.o 50620 [X6,HJ] (.af [v9,fp])))
 (.m 61309 [v212,X5] (.af [v139,X4]) (.o 57034 [X1,v222] (.af [v28,X6]))
 (.o 61973 [X2,X3] (.af [v9,XZ]))))]
def k40:List (Nat×aq):=[(164,ahS)]
def ahT:aq:=[.m 40072 [X7,cI] (.af [bN,bN]) (.m 38902 [jk,v9] (.af [jk,v10]) (.m 28310 [v31,jk] (.af [v9,v226]) (.m 5315 [v227,v228] (.af [v8,v229]) (.o 4527 [v226,X8] (.af [v8,X9]))
 (.l))
 (.o 28573 [v31,AD] (.af [v9,v227])))
 (.m 39523 [v148,v27] (.af [v8,v9]) (.o 39195 [v31,v9] (.af [v31,v10]))
 (.o 39556 [AD,v31] (.af [v10,AD]))))
 (.m 49628 [v228,v229] (.af [v8,X7]) (.m 42980 [X9,IE] (.af [v8,v148]) (.o 41370 [IE,v148] (.af [v9,v27]))
 (.o 47444 [v229,X7] (.af [v9,cI])))
 (.m 50177 [jk,v226] (.af [v8,X8]) (.o 49915 [AD,v227] (.af [v8,v228]))
 (.o 51466 [X8,X9] (.af [v8,IE]))))]
def k41:List (Nat×aq):=[(164,ahT)]
def ahU:aq:=[.m 39984 [v31,bN] (.af [v33,v10]) (.m 39006 [Mk,bN] (.af [v11,v10]) (.m 38726 [v28,v21] (.af [v9,v8]) (.m 38200 [v28,v9] (.af [v28,v10]) (.o 38198 [v21,v9] (RD))
 (.l))
 (.o 38729 [cI,v21] (.af [v8,v8])))
 (.m 39255 [cI,v28] (.af [v9,v21]) (.o 39016 [v69,bN] (.af [cI,v10]))
 (.o 39692 [AD,bN] (.af [v30,v10]))))
 (.m 40048 [v68,cI] (.af [v9,bN]) (.m 40040 [v11,cI] (.af [v22,v28]) (.o 40039 [v21,cI] (.af [v10,v21]))
 (.o 40041 [v28,cI] (.af [v10,v28])))
 (.m 42142 [v8,fp] (Mu) (.o 41120 [v69,v68] (.af [v8,cI]))
 (.o 46360 [v68,v69] (.af [v10,v68]))))]
def k42:List (Nat×aq):=[(164,ahU)]
def ahV:aq:=[.m 38723 [v8,v21] (Mu) (.m 38195 [v10,v9] (Mv) (.m 20089 [v35,v24] (.af [v8,ER]) (.o 7341 [v24,v35] (.af [v10,v24]))
 (.o 26622 [v9,v35] (HW)))
 (.m 38474 [fp,v8] (.af [cI,v10]) (.o 38458 [v10,v8] (Mv))
 (.o 38722 [v9,v21] (HW))))
 (.m 42156 [fp,fp] (HV) (.m 40398 [v127,bN] (.af [v34,v10]) (.o 39607 [v36,v9] (.af [v36,v10]))
 (.o 42140 [v10,fp] (Mv)))
 (.m 46401 [v35,v21] (.af [ER,v8]) (.o 45875 [v35,v9] (.af [v35,v10]))
 (.o 58387 [v24,ER] (.af [v9,v9])))),
 .o 38195 [v22,v9] (.af [v22,v10])]
def k43:List (Nat×aq):=[(164,ahV)]
def ahW:aq:=[.m 38724 [v21,v21] (HV) (.m 38199 [v11,v9] (.af [v11,v10]) (.m 18915 [v24,v9] (.af [v24,v10]) (.o 18914 [ER,v9] (.af [ER,v10]))
 (.o 38197 [v25,v9] (.af [v25,v10])))
 (.m 38721 [v10,v21] (Mv) (.o 38460 [v25,v8] (.af [v22,v10]))
 (.l)))
 (.m 39516 [v27,v27] (HV) (.m 38988 [bN,bN] (HV) (.o 38984 [v10,bN] (Mv))
 (.o 39512 [v8,v27] (Mu)))
 (.m 42299 [nV,v8] (.af [Xe,v9]) (.o 42036 [nV,v9] (.af [nV,v10]))
 (.l)))]
def ahX:aq:=[.m 53922 [jl,v1] (ES) (.o 41062 [v0,v1] (HX))
 (.o 54962 [v12,v5] (Mw))]
def k44:List (Nat×aq):=[(164,ahW),(187,ahX)]
def ahY:aq:=[.m 41451 [v232,v233] (.agg [v232,v233]) (.m 28098 [v234,oE] (.agg [v234,oE]) (.m 24930 [oE,oE] (.agg [oE,oE]) (.o 10560 [v236,QZ] (.agg [v236,QZ]))
 (.l))
 (.m 41326 [v1,v6] (.agg [v1,v6]) (.o 34640 [Q0,Rc] (.agg [Q0,Rc]))
 (.l)))
 (.m 41855 [fI,fI] (.agg [fI,fI]) (.m 41590 [v6,v5] (.agg [v6,v5]) (.o 41587 [v2,v5] (.agg [v2,v5]))
 (.l))
 (.m 56785 [Ns,oW] (.agg [Ns,oW]) (.o 42643 [v5,oW] (RW))
 (.l)))]
def ahZ:aq:=[.m 2148 [v1] (.agg [v1,v1]) (.m 2147 [v0] (Mx) (.o 2146 [v2] (.agg [v2,v2]))
 (.l))
 (.m 15007 [jl] (.agg [jl,jl]) (.o 2149 [v6] (.agg [v6,v6]))
 (.l))]
def k45:List (Nat×aq):=[(187,ahY),(219,ahZ)]
def ah0:aq:=[.m 15264 [qK] (.agg [qK,qK]) (.o 2151 [fI] (.agg [fI,fI]))
 (.l)]
def ah1:aq:=[.o 24078 [.b5 .f32 1051372203] (.bool true)]
def ah2:aq:=[.o 7 [] (.jD [v2,HK,HL,Re,oE,.str [50,47,51],.str [51,47,52],.str [53,47,54]] [v0,oE,v2,.str [45,49,47,50],jl,.str [45,49,47,50],v2,oE])]
def ah3:aq:=[.m 6739 [.b5 .f64 4710765210229538816] (.bool false) (.o 178 [.b5 .f64 4712266410284285952] (.bool false))
 (.l)]
def ah4:aq:=[.m 6739 [.b5 .f64 4710765210229538816] (.b5 .f64 4710765210229538816) (.o 178 [.b5 .f64 4712266410284285952] (.b5 .f64 4712266410284285952))
 (.l)]
def k46:List (Nat×aq):=[(219,ah0),(231,ah1),(238,ah2),(246,ah3),(252,ah4)]
def t1:Tr aq:=(.n 124 ahv (.n 102 (ahh++ahi) (.n 99 (alu++alv) (.n 59 alt (.n 29 als .l .l) .l) (.n 101 (ahf++ahg) (.n 100 (aj9++aka++akb++akc++akd++ake++akf++akg++akh++ahe) .l .l) .l)) (.n 111 (ahn++aho) (.n 108 (ahl++ahm) (.n 107 (ahj++ahk) .l .l) .l) (.n 119 (ahp++ahq++ahr++ahs++aht++ahu) .l .l))) (.n 219 (ahZ++ah0) (.n 164 (ahz++ahA++ahB++ahC++ahD++ahE++ahF++ahG++ahH++ahI++ahJ++ahK++ahL++ahM++ahN++ahO++ahP++ahQ++ahR++ahS++ahT++ahU++ahV++ahW) (.n 129 (ahx++ahy) (.n 125 ahw .l .l) .l) (.n 187 (ahX++ahY) .l .l)) (.n 246 ah3 (.n 238 ah2 (.n 231 ah1 .l .l) .l) (.n 252 ah4 .l .l))))
def T1:List (Tr aq):=t1::T0
def aki:aq:=[.m 46512 [.ap false 2 [HP,HS],.ap true 2 [HP,HS]] (.bool true) (.o 13824 [.ap false 2 [HR,HQ],.ap true 2 [HR,HQ]] (.bool true))
 (.l)]
def akj:aq:=[.m 10861 [v109] (v233) (.m 5367 [qM] (Ns) (.m 5361 [v91] (v12) (.o 5357 [bM] (v2))
 (.o 5365 [v82] (oW)))
 (.m 9013 [HF] (HM) (.o 9006 [fk] (oE))
 (.l)))
 (.m 46761 [QS] (Q0) (.m 30894 [v105] (v234) (.o 23598 [AE] (HK))
 (.o 30898 [Fw] (.str [53,47,56])))
 (.m 62113 [QU] (Rc) (.o 57349 [v107] (v232))
 (.l))),
 .o 5361 [v87] (v5)]
def k47:List (Nat×aq):=[(28,aki),(46,akj)]
def akk:aq:=[.m 12655 [oD] (v3) (.m 5360 [v80] (v6) (.m 5359 [fA] (qK) (.o 5358 [cf] (v0))
 (.l))
 (.m 12653 [EQ] (v4) (.o 5362 [v83] (fI))
 (.l)))
 (.m 47466 [QR] (QZ) (.m 21602 [Rg] (aml) (.o 16302 [v93] (HL))
 (.l))
 (.o 62288 [QT] (v236))),
 .o 5359 [v84] (v1)]
def akl:aq:=[.m 37518 [v85,v91] (v80) (.o 36466 [v85,v85] (cf))
 (.o 37520 [v84,v91] (qM)),
 .m 37520 [v84,v87] (v82) (.o 37518 [v85,v87] (rP))
 (.l)]
def k48:List (Nat×aq):=[(46,akk),(49,akl)]
def akm:aq:=[.m 36732 [v80,cf] (v80) (.m 36469 [v80,bM] (bM) (.m 36467 [cf,v85] (v85) (.o 35174 [v84,amk] (v86))
 (.o 36468 [v84,v85] (fA)))
 (.m 36730 [cf,cf] (cf) (.o 36470 [v87,bM] (bM))
 (.o 36731 [v84,cf] (v84))))
 (.m 36994 [v84,v84] (v87) (.m 36734 [v83,cf] (v83) (.o 36733 [v87,cf] (v87))
 (.o 36992 [v85,v84] (fA)))
 (.m 37257 [v84,v80] (qO) (.o 37256 [cf,v80] (v80))
 (.l))),
 .m 36468 [v84,bM] (bM) (.o 36467 [cf,bM] (bM))
 (.l)]
def k49:List (Nat×aq):=[(49,akm)]
def akn:aq:=[.m 36740 [IF,cf] (IF) (.m 36472 [rP,bM] (bM) (.m 36468 [fA,bM] (bM) (.o 36466 [bM,bM] (bM))
 (.o 36471 [v83,bM] (bM)))
 (.m 36733 [v91,cf] (v91) (.o 36729 [bM,cf] (bM))
 (.o 36735 [qO,cf] (qO))))
 (.m 36995 [v80,fA] (qM) (.m 36993 [cf,fA] (fA) (.o 36992 [bM,fA] (bM))
 (.o 36994 [v84,fA] (rP)))
 (.m 37519 [cf,v91] (v91) (.o 37255 [bM,v80] (bM))
 (.o 37523 [v83,v91] (v90))))]
def ako:aq:=[.o 1841 [j 0] (bM)]
def k50:List (Nat×aq):=[(49,akn),(69,ako)]
def akp:aq:=[.m 1843 [j 2] (v84) (.o 1842 [j 1] (cf))
 (.o 48082 [j 11184811] (Xd))]
def akq:aq:=[.m 37263 [v82,v80] (j 1) (.m 36992 [v85,v84] (j (-1)) (.m 14979 [v93,v105] (j 1) (.o 7683 [fk,v105] (j 1))
 (.o 35726 [fk,v93] (j 1)))
 (.m 37261 [rP,v80] (j (-1)) (.o 36993 [cf,v84] (j (-1)))
 (.l)))
 (.m 38574 [v87,v82] (j (-1)) (.m 37522 [v91,v87] (j (-1)) (.o 37265 [qM,v80] (j (-1)))
 (.o 38054 [qM,rP] (j (-1))))
 (.m 57614 [v105,v93] (j (-1)) (.o 39104 [v82,qM] (j 1))
 (.l)))]
def k51:List (Nat×aq):=[(69,akp),(71,akq)]
def akr:aq:=[.m 37256 [cf,v80] (j (-1)) (.m 36731 [fA,cf] (j (-1)) (.m 36466 [v85,v85] (j 0) (.o 24283 [v93,fk] (j (-1)))
 (.o 36730 [cf,cf] (j 0)))
 (.m 36994 [fA,fA] (j 0) (.o 36733 [v87,cf] (j 1))
 (.o 36996 [v87,fA] (j 1))))
 (.m 38050 [qO,qO] (j 0) (.m 37258 [v80,v80] (j 0) (.o 37257 [v84,v80] (j (-1)))
 (.o 37521 [v80,v87] (j (-1))))
 (.m 38879 [Fw,fk] (j 1) (.o 38875 [v105,fk] (j (-1)))
 (.o 57616 [IG,v93] (j 1)))),
 .o 36994 [v84,v84] (j 0)]
def k52:List (Nat×aq):=[(71,akr)]
def aks:aq:=[.m 20636 [Rh,fk] (j 1) (.m 16987 [fk,fk] (j 0) (.o 1891 [HG,Ya] (j 1))
 (.o 20635 [v117,fk] (j (-1))))
 (.m 37522 [v87,v87] (j 0) (.o 28996 [HG,Mn] (j (-1)))
 (.l))]
def akt:aq:=[.o 5358 [cf] (cf)]
def aku:aq:=[.m 36995 [v80,v84] (v83) (.m 36729 [bM,cf] (cf) (.m 36467 [cf,bM] (cf) (.o 36466 [bM,bM] (bM))
 (.l))
 (.o 36992 [bM,v84] (v84)))
 (.m 37519 [cf,v87] (v83) (.m 37518 [bM,v87] (v87) (.o 37255 [bM,v80] (v80))
 (.l))
 (.o 38044 [v85,qO] (v83)))]
def k53:List (Nat×aq):=[(71,aks),(73,akt),(74,aku)]
def akv:aq:=[.m 37521 [v80,v91] (bM) (.m 36471 [v83,bM] (v83) (.m 36469 [v80,bM] (v80) (.o 36468 [v84,bM] (v84))
 (.l))
 (.m 37259 [v91,v80] (bM) (.o 36994 [v84,fA] (bM))
 (.l)))
 (.m 39100 [v87,qM] (fA) (.m 38049 [v83,rP] (cf) (.o 38048 [v87,rP] (bM))
 (.l))
 (.m 43841 [IF,v90] (rP) (.o 39102 [qO,qM] (bM))
 (.l)))]
def akw:aq:=[.m 2150 [v5] (j 0) (.m 2148 [v1] (j 0) (.o 2147 [v0] (j 0))
 (.l))
 (.m 15521 [v12] (j 0) (.o 15007 [jl] (j 0))
 (.l))]
def k54:List (Nat×aq):=[(74,akv),(86,akw)]
def akx:aq:=[.m 2152 [.str [54]] (j 0) (.m 2149 [v6] (j 0) (.o 2146 [v2] (j 0))
 (.o 2151 [fI] (j 0)))
 (.m 15011 [v130] (j 0) (.o 2154 [oW] (j 0))
 (.o 15572 [v131] (j 0)))]
def ah5:aq:=[.m 39538 [v73,v27] (v21) (.m 38986 [v8,bN] (v8) (.m 38985 [v9,bN] (v9) (.o 38463 [v28,v8] (v9))
 (.l))
 (.o 39511 [v9,v27] (v9)))
 (.m 40262 [pX,v31] (v8) (.m 40038 [v8,cI] (v8) (.o 40037 [v9,cI] (v9))
 (.l))
 (.o 40263 [HH,v31] (v28)))]
def k55:List (Nat×aq):=[(86,akx),(130,ah5)]
def ah6:aq:=[.m 40260 [v36,v31] (v9) (.m 39555 [jk,v31] (v9) (.m 38459 [v9,v8] (v9) (.o 38458 [v22,v8] (v9))
 (.o 38460 [v8,v8] (v8)))
 (.m 40039 [v21,cI] (v9) (.o 39556 [AD,v31] (bN))
 (.o 40041 [v28,cI] (v9))))
 (.m 46370 [Mk,v69] (bN) (.m 42140 [v10,fp] (fp) (.o 40262 [v127,v31] (bN))
 (.o 42142 [v8,fp] (v8)))
 (.m 61447 [HT,oF] (fp) (.o 47943 [AG,cI] (bN))
 (.o 64035 [HU,oF] (fp)))),
 .o 38458 [v10,v8] (v8)]
def k56:List (Nat×aq):=[(130,ah6)]
def ah7:aq:=[.m 38723 [v8,v21] (v9) (.m 38462 [bN,v8] (v8) (.m 26622 [v9,v35] (v9) (.o 7341 [v24,v35] (v9))
 (.l))
 (.m 38722 [v9,v21] (v9) (.o 38721 [v10,v21] (v21))
 (.l)))
 (.m 39516 [v27,v27] (v27) (.m 39512 [v25,v27] (v8) (.o 38984 [v10,bN] (bN))
 (.l))
 (.m 46401 [v35,v21] (v9) (.o 42299 [nV,v8] (v9))
 (.l))),
 .m 38721 [v22,v21] (v9) (.o 38462 [v11,v8] (v9))
 (.o 38723 [v25,v21] (v9))]
def ah8:aq:=[.m 38749 [v73,v21] (v7) (.o 38727 [v27,v21] (v8))
 (.l)]
def k57:List (Nat×aq):=[(130,ah7),(148,ah8)]
def ah9:aq:=[.m 38992 [cI,bN] (v8) (.m 38203 [cI,v9] (cI) (.m 38199 [bN,v9] (bN) (.m 38197 [v8,v9] (v8) (.o 38196 [v9,v9] (v9))
 (.l))
 (.o 38201 [v27,v9] (v27)))
 (.m 38462 [bN,v8] (v8) (.o 38460 [v8,v8] (v9))
 (.o 38466 [cI,v8] (bN))))
 (.m 40662 [HH,v28] (v32) (.m 39872 [pX,v8] (jk) (.o 39458 [v31,v8] (v13))
 (.o 40247 [v31,v28] (v20)))
 (.m 46891 [AG,bN] (.agg [j 1,QV]) (.o 44631 [Yh,bJ] (RF))
 (.o 51269 [Yk,bJ] (Yg))))]
def k58:List (Nat×aq):=[(148,ah9)]
def aia:aq:=[.m 37218 [RE,v68] (Rw) (.m 23221 [YB,bJ] (RH) (.m 15847 [Yx,bJ] (RE) (.m 12502 [RH,v141] (.agg [j 1,SZ]) (.o 1506 [Yy,bJ] (Yo))
 (.l))
 (.o 16985 [Yl,bJ] (Yw)))
 (.m 26707 [Yz,bJ] (YA) (.o 25241 [YJ,bJ] (YH))
 (.o 35418 [RJ,.agg [j 56,.aa]] (Rz))))
 (.m 45348 [RF,v8] (.agg [j 1,v51]) (.m 39824 [YI,bJ] (RG) (.o 39132 [RG,.agg [j 90,.aa]] (.agg [j 1,SX]))
 (.o 44138 [Yr,bJ] (Ys)))
 (.m 54294 [Yt,bJ] (RM) (.o 51549 [RM,.agg [j 132,.aa]] (Ry))
 (.o 58347 [Yp,bJ] (RJ))))]
def k59:List (Nat×aq):=[(148,aia)]
def aib:aq:=[.m 40594 [Yn,bJ] (RL) (.m 8933 [YG,bJ] (RO) (.m 6417 [Yv,bJ] (Ym) (.m 5976 [YU,bJ] (RP) (.o 5494 [RQ,.agg [j 462,.aa]] (.agg [j 1,S4]))
 (.l))
 (.o 6609 [YV,bJ] (Y0)))
 (.m 17484 [RO,.agg [j 306,.aa]] (.agg [j 1,v53]) (.o 10208 [Yu,bJ] (YF))
 (.o 21468 [RI,.agg [j 182,.aa]] (.agg [j 1,SY]))))
 (.m 50063 [Yq,bJ] (YT) (.m 46549 [YR,bJ] (RQ) (.o 45093 [YC,bJ] (YD))
 (.o 49018 [YE,bJ] (RI)))
 (.m 58276 [RP,.agg [j 380,.aa]] (RA) (.o 52971 [YY,bJ] (YQ))
 (.o 58578 [RL,.agg [j 240,.aa]] (Rv))))]
def k60:List (Nat×aq):=[(148,aib)]
def aic:aq:=[.m 30325 [Y3,bJ] (YK) (.m 13230 [YL,bJ] (RS) (.m 9243 [Y5,bJ] (v143) (.m 8107 [RR,.agg [j 650,.aa]] (Y2) (.o 1584 [QX,.agg [j 992,.aa]] (S3))
 (.l))
 (.o 9739 [YO,bJ] (v64)))
 (.m 26135 [YS,bJ] (v58) (.o 16322 [Y4,bJ] (YW))
 (.o 27885 [Y1,bJ] (RN))))
 (.m 35274 [YX,bJ] (RR) (.m 31596 [RN,.agg [j 552,.aa]] (RB) (.o 30929 [YM,bJ] (QX))
 (.o 32606 [YZ,bJ] (v57)))
 (.m 46446 [RS,.agg [j 756,.aa]] (v59) (.o 43783 [YN,bJ] (QW))
 (.o 61455 [v143,.agg [j 870,.aa]] (v63))))]
def k61:List (Nat×aq):=[(148,aic)]
def aid:aq:=[.m 39692 [AD,bN] (v30) (.m 18972 [Y7,bJ] (v145) (.m 18179 [QW,.agg [j 1122,.aa]] (v60) (.m 15280 [Za,bJ] (v70) (.o 6351 [oF,fp] (RU))
 (.l))
 (.o 18392 [Y9,bJ] (v37)))
 (.m 38902 [jk,v9] (jk) (.o 29390 [Y8,bJ] (v65))
 (.o 39195 [v31,v9] (v31))))
 (.m 46786 [Y6,bJ] (v146) (.m 43138 [HT,fp] (.agg [j 1,Mm]) (.o 42308 [v146,.agg [j 1406,.aa]] (IE))
 (.o 45726 [HU,fp] (.agg [j 1,Ml])))
 (.m 57597 [YP,bJ] (v66) (.o 55096 [v37,.agg [j 1560,.aa]] (v10))
 (.o 64765 [v145,.agg [j 1260,.aa]] (S5))))]
def k62:List (Nat×aq):=[(148,aid)]
def aie:aq:=[.m 39016 [v69,bN] (cI) (.m 38200 [v28,v9] (v28) (.m 38198 [v21,v9] (v21) (.m 38195 [v22,v9] (v22) (.o 18915 [v24,v9] (v24))
 (.l))
 (.o 38199 [v11,v9] (v11)))
 (.m 38474 [fp,v8] (cI) (.o 38458 [v10,v8] (v10))
 (.o 39006 [Mk,bN] (v11))))
 (.m 42036 [nV,v9] (nV) (.m 39984 [v31,bN] (v33) (.o 39607 [v36,v9] (v36))
 (.o 40398 [v127,bN] (v34)))
 (.m 42156 [fp,fp] (v9) (.o 42140 [v10,fp] (v10))
 (.o 45875 [v35,v9] (v35))))]
def k63:List (Nat×aq):=[(148,aie)]
def aif:aq:=[.m 38724 [v21,v21] (v9) (.m 38464 [v27,v8] (v21) (.m 38460 [v25,v8] (v22) (.o 38197 [v25,v9] (v25))
 (.l))
 (.o 38721 [v10,v21] (v10)))
 (.m 38988 [bN,bN] (v9) (.o 38984 [v10,bN] (v10))
 (.o 39516 [v27,v27] (v9)))]
def aih:aq:=[.m 30897 [Bm] (v22) (.m 23598 [AE] (v10) (.m 9013 [HF] (v11) (.o 5460 [.agg [j 1,Ml,j 1,v183]] (jk))
 (.l))
 (.o 30894 [v105] (v10)))
 (.m 39727 [v86] (v40) (.o 38940 [aa6] (dI))
 (.o 54439 [.agg [j 1,Mm,j 1,v183]] (jk)))]
def k64:List (Nat×aq):=[(148,aif),(149,aih)]
def aii:aq:=[.m 16302 [v93] (v10) (.m 12846 [HN] (Xe) (.o 5357 [bM] (v10))
 (.l))
 (.o 20333 [HO] (ER))]
def aij:aq:=[.m 55282 [v8,j 11] (v44) (.m 52660 [v37,j 1] (v37) (.m 52651 [v9,j 1] (v9) (.o 26 [v37,j 50] (bJ))
 (.o 52652 [v8,j 1] (v8)))
 (.m 53186 [v37,j 3] (v31) (.o 52923 [v37,j 2] (v42))
 (.l)))
 (.m 58963 [v9,j 25] (v9) (.m 57131 [v37,j 18] (Nt) (.o 56342 [v37,j 15] (v49))
 (.l))
 (.m 64758 [v37,j 47] (oF) (.o 58964 [v8,j 25] (v35))
 (.l)))]
def k65:List (Nat×aq):=[(149,aii),(155,aij)]
def aik:aq:=[.m 58700 [v9,j 24] (v9) (.o 54501 [v37,j 8] (v48))
 (.o 58701 [v8,j 24] (v76))]
def ail:aq:=[.m 40798 [v2,v0] (.agg [v2,v2,v0,v0]) (.m 17957 [v0,qK] (.agg [v0,v0,qK,qK]) (.o 15889 [v6,jl] (aa7))
 (.l))
 (.m 41855 [fI,fI] (.agg [fI,fI,fI,fI]) (.o 41062 [v0,v1] (My))
 (.l))]
def aim:aq:=[.m 11349 [j 5,j 1,j 12] (j 0) (.m 11347 [j 3,j 1,j 12] (j 0) (.o 11346 [j 2,j 1,j 12] (j 0))
 (.l))
 (.m 49423 [j 3,j 0,j 256] (j 0) (.o 43068 [j 1,j 1,j 2147483646] (j 0))
 (.l))]
def ain:aq:=[.o 48388 [Ri] (AF),
 .o 48388 [AF] (Ri)]
def aio:aq:=[.o 23873 [.b5 .f64 4712266410284285952,j 0] (.bool false)]
def k66:List (Nat×aq):=[(155,aik),(196,ail),(206,aim),(222,ain),(245,aio)]
def aip:aq:=[.o 30434 [.b5 .f64 4710765210229538816,j 0] (.bool false)]
def aiq:aq:=[.m 6739 [.b5 .f64 4710765210229538816] (.af [.b5 .f64 4710765210229538816,j 0]) (.o 178 [.b5 .f64 4712266410284285952] (.af [.b5 .f64 4712266410284285952,j 0]))
 (.l)]
def k67:List (Nat×aq):=[(245,aip),(247,aiq)]
def t2:Tr aq:=(.n 130 (ah5++ah6++ah7) (.n 71 (akq++akr++aks) (.n 49 (akl++akm++akn) (.n 46 (akj++akk) (.n 28 aki .l .l) .l) (.n 69 (ako++akp) .l .l)) (.n 74 (aku++akv) (.n 73 akt .l .l) (.n 86 (akw++akx) .l .l))) (.n 206 aim (.n 155 (aij++aik) (.n 149 (aih++aii) (.n 148 (ah8++ah9++aia++aib++aic++aid++aie++aif) .l .l) .l) (.n 196 ail .l .l)) (.n 245 (aio++aip) (.n 222 ain .l .l) (.n 247 aiq .l .l))))
def T2:List (Tr aq):=t2::T1
def aky:aq:=[.o 36466 [bM,bM] (bM)]
def air:aq:=[.m 40038 [v8,cI] (v93) (.m 39511 [v9,v27] (AE) (.m 38985 [v9,bN] (v93) (.o 38459 [v9,v8] (fk))
 (.o 38986 [v8,bN] (fk)))
 (.m 39556 [AD,v31] (QU) (.o 39555 [jk,v31] (QS))
 (.o 40037 [v9,cI] (v105))))
 (.m 46370 [Mk,v69] (Bm) (.m 40263 [HH,v31] (v109) (.o 40262 [pX,v31] (v107))
 (.o 40577 [HI,rO] (HF)))
 (.m 61447 [HT,oF] (.agg [j 1,Mm,j 1,v183]) (.o 47943 [AG,cI] (aa6))
 (.o 64035 [HU,oF] (.agg [j 1,Ml,j 1,v183]))))]
def k68:List (Nat×aq):=[(50,aky),(101,air)]
def ais:aq:=[.m 40039 [v21,cI] (IG) (.m 38459 [v9,v25] (kR) (.m 26622 [v9,v35] (Rj) (.o 7341 [v24,v35] (Rg))
 (.o 38458 [v10,v8] (bM)))
 (.m 38462 [bN,v8] (v84) (.o 38460 [v8,v8] (cf))
 (.o 38723 [v8,v21] (Rh))))
 (.m 42140 [v10,fp] (bM) (.m 40260 [v36,v31] (QR) (.o 40041 [v28,cI] (Fw))
 (.o 40262 [v127,v31] (QT)))
 (.m 42299 [nV,v8] (HN) (.o 42142 [v8,fp] (v105))
 (.o 46401 [v35,v21] (HO)))),
 .o 38458 [v22,v8] (kR)]
def k69:List (Nat×aq):=[(101,ais)]
def ait:aq:=[.m 38984 [v10,bN] (bM) (.m 38721 [v10,v21] (bM) (.o 38462 [v11,v8] (CP))
 (.o 38723 [v25,v21] (oD)))
 (.m 39512 [v25,v27] (EQ) (.o 38986 [v8,v11] (oD))
 (.o 39516 [v27,v27] (cf))),
 .o 38721 [v22,v21] (EQ)]
def aiu:aq:=[.m 2154 [oW] (cI) (.m 2150 [v5] (bN) (.m 2148 [v1] (v8) (.o 2147 [v0] (v9))
 (.l))
 (.o 2151 [fI] (v28)))
 (.m 15521 [v12] (v11) (.o 15007 [jl] (v22))
 (.o 16035 [.str [45,53]] (v7)))]
def k70:List (Nat×aq):=[(101,ait),(110,aiu)]
def aiv:aq:=[.m 6518 [.str [51,49,52,49,53,57,50,54,53,51,53,56,57,55,57,51,50,51,56,52,54,50,54,52,51,51,56,51,50,55,57,53,48,50,56,56,52,49,57,55,49,54,57,51,57,57,51,55,53,49,48]] (Yj) (.m 2149 [v6] (v21) (.o 2146 [v2] (v10))
 (.o 2152 [.str [54]] (v27)))
 (.m 15572 [v131] (nV) (.o 15011 [v130] (v72))
 (.l))]
def aiw:aq:=[.m 41249 [amm] (.bV true 1 2 [v1,v0]) (.m 28005 [Yb] (.bV true 1 3 [v0,v2,v4]) (.o 6710 [Rk] (.bV true 1 3 [v2,v0,v3]))
 (.l))
 (.m 55533 [amn] (.bV true 1 2 [v5,v6]) (.o 48389 [amo] (.bV true 1 2 [v0,v1]))
 (.l))]
def aix:aq:=[.m 44486 [.ap true 2 [v5,oW]] (j 0) (.m 43433 [RX] (j 0) (.o 42905 [CQ] (j 0))
 (.l))
 (.m 56805 [.ap true 2 [v12,v5]] (j 0) (.o 55765 [.ap true 2 [jl,v1]] (j 0))
 (.l))]
def k71:List (Nat×aq):=[(110,aiv),(123,aiw),(161,aix)]
def aiy:aq:=[.m 42642 [.ap true 2 [v0,v0]] (j 0) (.m 30590 [.ap true 2 [jl,jl]] (j 0) (.m 18786 [.ap true 2 [fI,v130]] (j 0) (.o 5873 [RY] (j 0))
 (.l))
 (.m 42641 [RZ] (j 0) (.o 42379 [R0] (j 0))
 (.l)))
 (.m 43170 [.ap true 2 [v6,v6]] (j 0) (.m 43169 [.ap true 2 [v1,v6]] (j 0) (.o 42906 [.ap true 2 [v1,v1]] (j 0))
 (.l))
 (.o 59923 [R1] (j 0)))]
def aiz:aq:=[.o 26326 [j 1,j 3] (.af [.bV false 1 3 [j 0,j 2,j 1],j 0])]
def aiA:aq:=[.m 9013 [HF] (.af [HM,j 0]) (.o 5361 [v91] (.af [v12,j 0]))
 (.l)]
def aiB:aq:=[.m 38580 [qM,v82] (R2) (.o 37518 [bM,v87] (.af [.agg [v2,v5],j 0]))
 (.o 38875 [v105,fk] (aa8))]
def k72:List (Nat×aq):=[(161,aiy),(180,aiz),(208,aiA),(214,aiB)]
def aiC:aq:=[.m 36730 [cf,cf] (.af [Mx,j 0]) (.m 29027 [v107,v109] (aa9) (.o 389 [QS,QU] (aba))
 (.o 29494 [QT,QR] (abb)))
 (.m 37786 [v83,v83] (.af [.agg [fI,fI],j 0]) (.o 36994 [fA,fA] (.af [.agg [qK,qK],j 0]))
 (.l))]
def aiD:aq:=[.o 1844 [j 3] (j 0)]
def aiE:aq:=[.m 10849 [sL,Yc] (Mo) (.o 3138 [Mq,AF] (Mo))
 (.o 25702 [Mr,amp] (Mo))]
def aiF:aq:=[.m 40917 [amq,.fn (.f 71) [] []] (v85) (.m 22010 [amr,.fn (.f 71) [] []] (fA) (.o 17253 [ams,.fn (.f 71) [] []] (fA))
 (.o 31477 [amt,.fn (.f 71) [] []] (v105)))
 (.m 53609 [amu,.fn (.f 71) [] []] (qM) (.o 45317 [amv,.fn (.f 71) [] []] (v80))
 (.l))]
def k73:List (Nat×aq):=[(214,aiC),(215,aiD),(223,aiE),(233,aiF)]
def aiG:aq:=[.m 22163 [.ap true 2 [j 4,.aa,j 1,.aa,j 4,.aa,j 1,.aa],.fn (.f 71) [] []] (v87) (.m 3103 [amw,.fn (.f 71) [] []] (v87) (.o 737 [.ap true 2 [j 1,.aa,j 1,.aa,j 1,.aa,j 1,.aa],.fn (.f 71) [] []] (cf))
 (.l))
 (.m 64224 [amx,.fn (.f 71) [] []] (cf) (.o 49717 [amy,.fn (.f 71) [] []] (qO))
 (.l))]
def aiH:aq:=[.m 40917 [amq,.fn (.f 71) [] []] (v85) (.m 22010 [amr,.fn (.f 71) [] []] (fA) (.m 17253 [ams,.fn (.f 71) [] []] (v87) (.o 3103 [amw,.fn (.f 71) [] []] (v87))
 (.l))
 (.o 31477 [amt,.fn (.f 71) [] []] (fk)))
 (.m 53609 [amu,.fn (.f 71) [] []] (v82) (.m 49717 [amy,.fn (.f 71) [] []] (qO) (.o 45317 [amv,.fn (.f 71) [] []] (v80))
 (.l))
 (.o 64224 [amx,.fn (.f 71) [] []] (cf)))]
def aiI:aq:=[.m 1891 [j 50] (bJ) (.o 1844 [j 3] (v31))
 (.l)]
def k74:List (Nat×aq):=[(233,aiG),(234,aiH),(236,aiI)]
def aiJ:aq:=[.o 1888 [j 47] (oF)]
def aiK:aq:=[.m 28694 [v8] (v9) (.o 28693 [v9] (v9))
 (.o 63062 [v40] (pX))]
def aiL:aq:=[.m 22882 [Ro,Ro,cf,bM] (.bV false 4 3 [j 1,.aa,j 1,.aa,j 2,.aa,j 1,.aa,j 3,.aa,j 1,.aa]) (.m 17414 [amz,Ms,cf,v91] (.bV false 4 3 [j 0,.aa,j 1,.aa,j (-2),.aa,j 1,.aa,j (-4),.aa,j 1,.aa]) (.o 6694 [Ms,amA,cf,fA] (.bV false 4 3 [j 1,.aa,j 1,.aa,j 0,.aa,j 1,.aa,j 1,.aa,j 1,.aa]))
 (.l))
 (.m 50957 [Ms,Ms,cf,bM] (.bV false 4 3 [j 1,.aa,j 1,.aa,j 2,.aa,j 1,.aa,j 5,.aa,j 1,.aa]) (.o 46012 [Yd,amB,cf,fA] (.bV false 4 3 [j 0,.aa,j 1,.aa,j 0,.aa,j 1,.aa,j 0,.aa,j 1,.aa]))
 (.l))]
def aiM:aq:=[.m 35366 [v84,j 24] (Ya) (.o 29317 [v84,j 1] (v84))
 (.o 35629 [v84,j 25] (Mn))]
def aiN:aq:=[.m 36497 [.b5 .f64 4712266410284285952,j (-25)] (.b5 .f64 4599676419600023552) (.o 30697 [.b5 .f64 4710765210229538816,j 1] (.b5 .f64 4715268809856909312))
 (.l)]
def k75:List (Nat×aq):=[(236,aiJ),(237,aiK),(240,aiL),(241,aiM),(243,aiN)]
def t3:Tr aq:=(.n 215 aiD (.n 161 (aix++aiy) (.n 110 (aiu++aiv) (.n 101 (air++ais++ait) (.n 50 aky .l .l) .l) (.n 123 aiw .l .l)) (.n 208 aiA (.n 180 aiz .l .l) (.n 214 (aiB++aiC) .l .l))) (.n 237 aiK (.n 234 aiH (.n 233 (aiF++aiG) (.n 223 aiE .l .l) .l) (.n 236 (aiI++aiJ) .l .l)) (.n 241 aiM (.n 240 aiL .l .l) (.n 243 aiN .l .l))))
def T3:List (Tr aq):=t3::T2
def akz:aq:=[.m 32078 [cf,v93] (v93) (.m 13076 [cf,kR] (kR) (.m 11941 [.agg [j 1,v45,j 1,.aa],v105] (aa6) (.m 4036 [v84,v105] (v93) (.o 4035 [cf,v105] (v105))
 (.l))
 (.o 13075 [bM,kR] (bM)))
 (.m 13081 [rP,kR] (v84) (.o 13077 [fA,kR] (cf))
 (.o 17179 [HG,fk] (HN))))
 (.m 40903 [kR,v80] (CP) (.m 32452 [v117,Mn] (HO) (.o 32079 [v84,v93] (fk))
 (.o 40118 [CP,bM] (bM)))
 (.m 56542 [Xd,Rj] (Rg) (.o 55731 [bM,oD] (bM))
 (.o 59383 [CP,oD] (cf))))]
def k76:List (Nat×aq):=[(49,akz)]
def akA:aq:=[.m 20636 [oD,fk] (EQ) (.m 13339 [cf,fk] (fk) (.o 13338 [bM,fk] (bM))
 (.l))
 (.m 55732 [cf,oD] (oD) (.o 40377 [kR,cf] (kR))
 (.l))]
def akB:aq:=[.m 15007 [jl] (v85) (.m 2149 [v6] (v80) (.m 2148 [v1] (v84) (.o 2147 [v0] (cf))
 (.l))
 (.m 2154 [oW] (v82) (.o 2150 [v5] (v87))
 (.l)))
 (.m 47135 [HK] (AE) (.m 27639 [HM] (HF) (.o 15521 [v12] (v91))
 (.l))
 (.m 54535 [Rr] (Ye) (.o 48191 [v234] (v105))
 (.l)))]
def k77:List (Nat×aq):=[(49,akA),(62,akB)]
def akC:aq:=[.m 15011 [v130] (IF) (.m 2151 [fI] (v83) (.o 2146 [v2] (bM))
 (.o 2152 [.str [54]] (qO)))
 (.m 45551 [Re] (v117) (.o 15572 [v131] (HG))
 (.o 46079 [HL] (v93)))]
def akD:aq:=[.m 5365 [v82] (v105) (.m 5361 [v87] (v93) (.o 5359 [fA] (kR))
 (.l))
 (.m 13037 [Mn] (Rj) (.o 9009 [CP] (oD))
 (.l)),
 .o 5359 [v84] (fk)]
def akE:aq:=[.m 57350 [Ye,v94] (Bm) (.o 54707 [AE,bM] (AE))
 (.o 62003 [v105,bM] (v105))]
def k78:List (Nat×aq):=[(62,akC),(73,akD),(74,akE)]
def akF:aq:=[.m 42759 [v93,v94] (bM) (.m 14127 [bM,CP] (CP) (.m 5876 [cf,v96] (IG) (.o 5013 [HN,ami] (fk))
 (.o 8472 [fk,Bm] (v105)))
 (.m 40114 [kR,bM] (kR) (.o 16986 [kR,fk] (bM))
 (.l)))
 (.m 55205 [bM,EQ] (EQ) (.m 47411 [v93,bM] (v93) (.o 43764 [oD,bM] (oD))
 (.l))
 (.m 64865 [HO,amj] (Rh) (.o 62269 [Bm,cf] (Fw))
 (.l)))]
def akG:aq:=[.m 48191 [v234] (j 0) (.m 47135 [HK] (j 0) (.o 27639 [HM] (j 0))
 (.l))
 (.o 54535 [Rr] (j 0))]
def k79:List (Nat×aq):=[(74,akF),(86,akG)]
def akH:aq:=[.m 46079 [HL] (j 0) (.o 45551 [Re] (j 0))
 (.l)]
def aiO:aq:=[.m 2922 [RX,.cz [CR]] (j 0) (.m 2130 [RZ,.cz [ET]] (j 0) (.o 1868 [R0,.cz [ET]] (j 0))
 (.o 2394 [CQ,.cz [CR]] (j 0)))
 (.m 30883 [RY,.cz [CS]] (j 0) (.o 19412 [R1,.cz [CS]] (j 0))
 (.l))]
def aiP:aq:=[.o 28181 [j 15,j (-6)] (.af [HM,j 0])]
def aiQ:aq:=[.o 29578 [bM,j 2] (.af [Mx,j 0])]
def aiR:aq:=[.m 39522 [AF,Mr] (Ri) (.m 32380 [sL,Mr] (Mr) (.o 10617 [sL,sL] (sL))
 (.o 32612 [sL,Mq] (Mq)))
 (.m 60989 [Ru,Ru] (.agg [j (-2),.aa,j 1,.aa,j 4,.aa,j 1,.aa]) (.o 39754 [AF,Mq] (amp))
 (.l))]
def k80:List (Nat×aq):=[(86,akH),(126,aiO),(185,aiP),(218,aiQ),(221,aiR)]
def aiS:aq:=[.o 61517 [AF,AF] (Yc)]
def aiT:aq:=[.m 54375 [sL,Ri] (am2) (.o 17654 [Mo,Mo] (am3))
 (.l)]
def aiU:aq:=[.m 35247 [.ap false 2 [amm,amn]] (.af [.bV false 1 2 [HP,HS],j 0]) (.o 23670 [.ap true 2 [Yb,Rk]] (.af [.bV false 1 2 [HR,HQ],j 0]))
 (.o 50231 [.ap true 1 [amo]] (.af [.bV false 1 1 [CQ],j 0]))]
def aiV:aq:=[.o 1730 [.ap false 2 [Ro,Yd]] (.af [.bV false 1 1 [amB],.bV false 1 1 [j 0]])]
def aiW:aq:=[.m 1866 [j 25] (Mn) (.o 1865 [j 24] (Ya))
 (.l)]
def aiX:aq:=[.m 36497 [.b5 .f64 4712266410284285952,j (-25)] (.b5 .f64 4599676419600023552) (.o 30697 [.b5 .f64 4710765210229538816,j 1] (.b5 .f64 4715268809856909312))
 (.l)]
def aiY:aq:=[.o 5359 [v84] (.af [cf,.bool false])]
def k81:List (Nat×aq):=[(221,aiS),(224,aiT),(226,aiU),(227,aiV),(228,aiW),(230,aiX),(235,aiY)]
def t4:Tr aq:=(.n 218 aiQ (.n 74 (akE++akF) (.n 62 (akB++akC) (.n 49 (akz++akA) .l .l) (.n 73 akD .l .l)) (.n 126 aiO (.n 86 (akG++akH) .l .l) (.n 185 aiP .l .l))) (.n 227 aiV (.n 224 aiT (.n 221 (aiR++aiS) .l .l) (.n 226 aiU .l .l)) (.n 230 aiX (.n 228 aiW .l .l) (.n 235 aiY .l .l))))
def T4:List (Tr aq):=t4::T3
def akI:aq:=[.m 47411 [v93,bM] (v93) (.m 24747 [HN,Xb] (fk) (.m 8209 [fk,IG] (v105) (.o 5087 [cf,Fw] (IG))
 (.l))
 (.m 43022 [v93,v93] (bM) (.o 25656 [HO,Xc] (Rh))
 (.l)))
 (.m 62003 [v105,bM] (v105) (.m 57613 [Ye,v93] (Bm) (.o 54707 [AE,bM] (AE))
 (.l))
 (.o 62006 [Bm,v85] (Fw)))]
def akJ:aq:=[.m 38571 [cf,v82] (v105) (.m 37520 [v84,v87] (fk) (.o 37519 [cf,v87] (v93))
 (.l))
 (.o 38572 [v84,v82] (v93))]
def akK:aq:=[.m 56805 [.ap true 2 [v12,v5]] (.bV true 4 2 [j (-3),.aa,j 1,.aa,j 4,.aa,j 1,.aa]) (.o 55765 [.ap true 2 [jl,v1]] (.bV true 4 2 [j (-1),.aa,j 1,.aa,j 2,.aa,j 1,.aa]))
 (.l)]
def k82:List (Nat×aq):=[(50,akI),(70,akJ),(88,akK)]
def akL:aq:=[.m 42905 [CQ] (.bV true 4 2 [j 1,.aa,j 1,.aa,j 2,.aa,j 1,.aa]) (.m 42379 [R0] (.bV true 4 2 [j 1,.aa,j 1,.aa,j 0,.aa,j 1,.aa]) (.o 5873 [RY] (.bV true 4 3 [j 2,.aa,j 1,.aa,j 4,.aa,j 1,.aa,j 6,.aa,j 1,.aa]))
 (.o 42641 [RZ] (.bV true 4 2 [j 0,.aa,j 1,.aa,j 1,.aa,j 1,.aa])))
 (.m 44486 [.ap true 2 [v5,oW]] (.bV true 4 2 [j 4,.aa,j 1,.aa,j 8,.aa,j 1,.aa]) (.o 43433 [RX] (.bV true 4 2 [j 3,.aa,j 1,.aa,j 4,.aa,j 1,.aa]))
 (.o 59923 [R1] (.bV true 4 3 [j 1,.aa,j 1,.aa,j 2,.aa,j 1,.aa,j 3,.aa,j 1,.aa])))]
def aiZ:aq:=[.m 24621 [CR,.fn (.f 126) [] [.cz [CR]]] (j 0) (.o 9239 [ET,.fn (.f 126) [] [.cz [ET]]] (j 0))
 (.o 57030 [CS,.fn (.f 126) [] [.cz [CS]]] (j 0))]
def ai0:aq:=[.o 27639 [HM] (.af [v12,j 0])]
def ai1:aq:=[.m 44484 [RW] (j 0) (.m 43431 [.agg [v6,v5]] (j 0) (.o 42903 [HX] (j 0))
 (.l))
 (.m 56803 [Mw] (j 0) (.o 55763 [ES] (j 0))
 (.l))]
def k83:List (Nat×aq):=[(88,akL),(127,aiZ),(186,ai0),(210,ai1)]
def ai2:aq:=[.m 42904 [.agg [v1,v1]] (j 0) (.m 42640 [Mx] (j 0) (.o 30588 [.agg [jl,jl]] (j 0))
 (.l))
 (.m 43168 [.agg [v6,v6]] (j 0) (.o 43167 [.agg [v1,v6]] (j 0))
 (.l))]
def ai3:aq:=[.m 42904 [.agg [v1,v1]] (AF) (.m 42640 [Mx] (sL) (.o 30588 [.agg [jl,jl]] (Mr))
 (.l))
 (.m 55763 [ES] (Ru) (.o 43168 [.agg [v6,v6]] (Mq))
 (.l))]
def ai4:aq:=[.m 48386 [Ru] (.agg [j 0,.aa,j 1,.aa,j 4,.aa,j 1,.aa]) (.o 41246 [sL] (sL))
 (.o 48388 [AF] (Yc))]
def ai5:aq:=[.o 29843 [v84,j 3] (aa9)]
def ai6:aq:=[.m 7154 [v234,j 3] (j 0) (.o 6624 [HK,j 5] (j 0))
 (.l)]
def k84:List (Nat×aq):=[(210,ai2),(212,ai3),(213,ai4),(216,ai5),(217,ai6)]
def ai7:aq:=[.m 13498 [Rr,j 3] (j 0) (.o 4779 [HL,j 2] (j 0))
 (.l)]
def ai8:aq:=[.m 1889 [j (-25)] (Rj) (.o 1841 [j (-1)] (fk))
 (.l)]
def ai9:aq:=[.m 35092 [amC,amD,cf,v80] (.bV false 4 3 [j 0,.aa,j 1,.aa,j (-3),.aa,j 2,.aa,j 1,.aa,j 1,.aa]) (.m 32172 [Yf,Yf,kR,bM] (.bV false 4 3 [j 1,.aa,j 1,.aa,j (-1),.aa,j 2,.aa,j 0,.aa,j 1,.aa]) (.o 24528 [amD,Rk,cf,fk] (.bV false 4 3 [j 1,.aa,j 1,.aa,j 0,.aa,j 1,.aa,j (-1),.aa,j 3,.aa]))
 (.l))
 (.m 64653 [amE,amE,oD,bM] (.bV false 4 3 [j 0,.aa,j 1,.aa,j 1,.aa,j 1,.aa,j (-2),.aa,j 3,.aa]) (.o 35463 [amF,amF,kR,bM] (.bV false 4 3 [j 0,.aa,j 1,.aa,j 1,.aa,j 1,.aa,j 2,.aa,j 1,.aa]))
 (.l))]
def aja:aq:=[.o 2218 [v105,j 50] (RC)]
def k85:List (Nat×aq):=[(217,ai7),(228,ai8),(240,ai9),(244,aja)]
def t5:Tr aq:=(.n 212 ai3 (.n 127 aiZ (.n 70 akJ (.n 50 akI .l .l) (.n 88 (akK++akL) .l .l)) (.n 210 (ai1++ai2) (.n 186 ai0 .l .l) .l)) (.n 228 ai8 (.n 216 ai5 (.n 213 ai4 .l .l) (.n 217 (ai6++ai7) .l .l)) (.n 244 aja (.n 240 ai9 .l .l) .l)))
def T5:List (Tr aq):=t5::T4
def akM:aq:=[.m 49750 [ET] (j 0) (.o 32020 [CS] (j 0))
 (.o 65132 [CR] (j 0))]
def ajb:aq:=[.o 55763 [ES] (.af [.agg [v2,v5],j 0])]
def ajc:aq:=[.m 62761 [HX,.agg [v6,v5]] (.af [j (-1),j 0]) (.o 58850 [HX,.agg [v1,v6]] (.af [j 0,j 24]))
 (.l)]
def ajd:aq:=[.o 26632 [v1,j 3] (aa9)]
def aje:aq:=[.m 37625 [HX,RW,.fn (.f 70) [] []] (aa8) (.o 14332 [ES,Mw,.fn (.f 49) [] []] (R2))
 (.l)]
def ajf:aq:=[.m 48608 [AE,j 5] (am4) (.o 40523 [v93,j 2] (.af [.agg [v2,v2],j 0]))
 (.l)]
def ajg:aq:=[.m 53088 [aa7] (j 0) (.o 33922 [My] (j 0))
 (.l)]
def ajh:aq:=[.m 49750 [ET] (.bV false 1 2 [.ap true 2 [j 0,.aa,j 1,.aa,j 1,.aa,j 1,.aa],.ap true 2 [j 1,.aa,j 1,.aa,j 0,.aa,j 1,.aa]]) (.o 32020 [CS] (.bV false 1 2 [Ro,Yd]))
 (.o 65132 [CR] (.bV false 1 2 [.ap true 2 [j 1,.aa,j 1,.aa,j 2,.aa,j 1,.aa],.ap true 2 [j 3,.aa,j 1,.aa,j 4,.aa,j 1,.aa]]))]
def k86:List (Nat×aq):=[(84,akM),(190,ajb),(191,ajc),(192,ajd),(211,aje),(218,ajf),(220,ajg),(225,ajh)]
def aji:aq:=[.m 49312 [.ap false 2 [Ms,amz]] (.af [.bV true 1 2 [.ap false 3 [j 1,.aa,j 1,.aa,j 0,.aa,j 1,.aa,j 1,.aa,j 1,.aa],amA],.bV false 1 2 [j 0,j 1]]) (.o 17358 [.ap false 2 [Yf,amC]] (.af [.bV true 1 2 [Yb,Rk],.bV false 1 2 [j 0,j 1]]))
 (.l)]
def ajj:aq:=[.m 20333 [HO] (j 11184811) (.o 12846 [HN] (j 8388608))
 (.l)]
def ajk:aq:=[.o 24078 [.b5 .f32 1051372203] (Rg)]
def ajl:aq:=[.o 55378 [v105,j 3] (jk)]
def k87:List (Nat×aq):=[(227,aji),(229,ajj),(232,ajk),(239,ajl)]
def t6:Tr aq:=(.n 220 ajg (.n 192 ajd (.n 190 ajb (.n 84 akM .l .l) (.n 191 ajc .l .l)) (.n 218 ajf (.n 211 aje .l .l) .l)) (.n 229 ajj (.n 227 aji (.n 225 ajh .l .l) .l) (.n 239 ajl (.n 232 ajk .l .l) .l)))
def T6:List (Tr aq):=t6::T5
def ajm:aq:=[.o 12095 [HX,RW] (aa8)]
def ajn:aq:=[.o 6624 [HK,j 5] (am4)]
def ajo:aq:=[.o 4779 [HL,j 2] (.af [.agg [v2,v2,v0,v0],j 0])]
def ajp:aq:=[.o 38252 [My,aa7] (am3)]
def ajq:aq:=[.o 33922 [My] (am2)]
def ajr:aq:=[.o 33922 [My] (.af [.agg [fI,fI],j 0])]
def ajs:aq:=[.o 43341 [CR,ET] (.af [.ap false 2 [HP,HS],j 0])]
def ajt:aq:=[.o 24413 [CR,.ap true 2 [fI,v130]] (.af [CQ,j 0])]
def aju:aq:=[.m 45551 [Re] (.af [.b5 .f32 1051372203,j 0]) (.o 15572 [v131] (.af [.b5 .f32 1266679808,j 0]))
 (.l)]
def ajv:aq:=[.o 24078 [.b5 .f32 1051372203] (.af [aml,j 0])]
def ajw:aq:=[.o 32020 [CS] (.af [.ap false 2 [HR,HQ],j 0])]
def ajx:aq:=[.o 32020 [CS] (.af [j 1,j 0])]
def ajy:aq:=[.o 14332 [ES,Mw,.fn (.f 49) [] []] (R2)]
def ajz:aq:=[.m 55381 [Bm,j 3] (abb) (.o 55378 [v105,j 3] (aba))
 (.l)]
def k88:List (Nat×aq):=[(189,ajm),(193,ajn),(195,ajo),(197,ajp),(198,ajq),(199,ajr),(200,ajs),(201,ajt),(202,aju),(203,ajv),(204,ajw),(205,ajx),(209,ajy),(218,ajz)]
def t7:Tr aq:=(.n 201 ajt (.n 197 ajp (.n 193 ajn (.n 189 ajm .l .l) (.n 195 ajo .l .l)) (.n 199 ajr (.n 198 ajq .l .l) (.n 200 ajs .l .l))) (.n 205 ajx (.n 203 ajv (.n 202 aju .l .l) (.n 204 ajw .l .l)) (.n 218 ajz (.n 209 ajy .l .l) .l)))
def T7:List (Tr aq):=t7::T6
def ajA:aq:=[.o 54323 [ES,Mw] (R2)]
def ajB:aq:=[.o 7154 [v234,j 3] (aba)]
def ajC:aq:=[.o 13498 [Rr,j 3] (abb)]
def k89:List (Nat×aq):=[(188,ajA),(193,ajB),(194,ajC)]
def t8:Tr aq:=(.n 193 ajB (.n 188 ajA .l .l) (.n 194 ajC .l .l))
def T8:List (Tr aq):=t8::T7
def ajD:aq:=[.o 7 [] (.bool true)]
def k90:List (Nat×aq):=[(179,ajD)]
def t9:Tr aq:=(.n 179 ajD .l .l)
def T9:List (Tr aq):=t9::T8
end ml
end VE
