import Derived.Test.YtjemkccfpkgopaaGreatDoorUai
set_option linter.all false
set_option maxRecDepth 100000
namespace VE
namespace pc
def T0:List (Tr an):=[]
abbrev j (n:Int):AV:= .int .i64 n
abbrev u (n:Nat):AV:= .int .u64 n
def w (l:List Nat):AV:= .ai true l.length (l.map u)
def v0:AV:= .str [49]
def v1:AV:= .str [50]
def v2:AV:= .str [48]
def v3:AV:= .str [45,50,47,51]
def v4:AV:= .str [45,49,47,51]
def v5:AV:= .str [52]
def v6:AV:= .str [51]
def v7:AV:= .agg [j (-5),.aa]
def v8:AV:= .agg [j 2,.aa]
def v9:AV:= .agg [j 1,.aa]
def v10:AV:= .agg [j 0,.aa]
def v11:AV:= .agg [j (-3),.aa]
def v12:AV:= .str [45,51]
def Yu:AV:= .agg [j 500,.aa]
def pX:AV:= .agg [j (-6),.aa]
def JY:AV:= .str [45,54]
def iF:AV:= .agg [j 707,.aa]
def ck:AV:= .agg [j 8,.aa]
def nL:AV:= .str [56]
def bE:AV:= .agg [j 4,.aa]
def v20:AV:= .agg [j 200,.aa]
def v21:AV:= .agg [j 3,.aa]
def v22:AV:= .agg [j (-1),.aa]
def iG:AV:= .str [45,49]
def v24:AV:= .agg [j 11184811,.aa]
def v25:AV:= .agg [j (-2),.aa]
def pg:AV:= .str [45,50]
def v27:AV:= .agg [j 6,.aa]
def v28:AV:= .agg [j 5,.aa]
def fm:AV:= .str [53]
def v30:AV:= .agg [j 177,.aa]
def v31:AV:= .agg [j 1000,.aa]
def Yv:AV:= .agg [j 283,.aa]
def v33:AV:= .agg [j 250,.aa]
def Yw:AV:= .agg [j (-177),.aa]
def v35:AV:= .agg [j 33554432,.aa]
def v36:AV:= .agg [j (-707),.aa]
def v37:AV:= .agg [j 10,.aa]
def v38:AV:= .agg [j (-4),.aa]
def OJ:AV:= .agg [j 1000000,.aa]
def v40:AV:= .agg [j 2000000,.aa]
def eY:AV:= .agg [j 16,.aa]
def v42:AV:= .agg [j 100,.aa]
def A7:AV:= .agg [j 256,.aa]
def v44:AV:= .agg [j 2048,.aa]
def Yx:AV:= .ai false 3 [u 13782813920216018380,u 14771817424140671491,u 1846462208439]
def v46:AV:= .agg [j 10000000000000000,.aa]
def JZ:AV:= .agg [j 1000000000000000000,.aa]
def v48:AV:= .agg [j 100000000,.aa]
def v49:AV:= .agg [j 1000000000000000,.aa]
def Yy:AV:= .agg [j 314159265358979323,.aa]
def v51:AV:=w [12841816680275005770,13161652337898601986,90638001705]
def OK:AV:= .agg [j 10000,.aa]
def v53:AV:=w [6399444481559475388,10948563002861]
def OL:AV:=w [8838169010550242411,11648284440560156239,7232]
def OM:AV:= .ai false 2 [u 8517096806125780797,u 2113149700393599948]
def ON:AV:=w [5782533995252789348,6903900930993065827,95800405]
def Yz:AV:= .agg [j 210924120762378,.aa]
def YA:AV:= .agg [j 131157864828,.aa]
def v59:AV:= .agg [j 378770245945430644,.aa]
def YB:AV:= .agg [j 91810290,.aa]
def OO:AV:= .agg [j 166995380103,.aa]
def OP:AV:=w [17141642983857435610,23729635]
def v63:AV:= .agg [j 268556931493155,.aa]
def YC:AV:= .agg [j 297485455515141020,.aa]
def v65:AV:= .agg [j 35300,.aa]
def YD:AV:= .agg [j 72107633,.aa]
def OQ:AV:= .agg [j 44946,.aa]
def v68:AV:= .agg [j 12,.aa]
def v69:AV:= .agg [j 32,.aa]
def v70:AV:= .agg [j 14,.aa]
def Fx:AV:= .agg [j 19,.aa]
def v72:AV:= .agg [j 11,.aa]
def v73:AV:= .agg [j (-15),.aa]
def mQ:AV:= .agg [j 16777217,.aa]
def v75:AV:= .agg [j 65536,.aa]
def v76:AV:= .agg [j 16777216,.aa]
def pZ:AV:= .agg [j (-4),.aa,j 1,.aa]
def ff:AV:= .agg [j (-2),.aa,j 1,.aa]
def bV:AV:= .agg [j 1,.aa,j 1,.aa]
def v80:AV:= .agg [j 3,.aa,j 1,.aa]
def ph:AV:= .agg [j (-6),.aa,j 1,.aa]
def v82:AV:= .agg [j 8,.aa,j 1,.aa]
def v83:AV:= .agg [j 5,.aa,j 1,.aa]
def v84:AV:= .agg [j 2,.aa,j 1,.aa]
def v85:AV:= .agg [j (-1),.aa,j 1,.aa]
def YE:AV:= .agg [j 2000000,.aa,j 1,.aa]
def v87:AV:= .agg [j 4,.aa,j 1,.aa]
def Fy:AV:= .agg [j 11,.aa,j 1,.aa]
def pk:AV:= .agg [j 6,.aa,j 1,.aa]
def YF:AV:= .agg [j (-15),.aa,j 1,.aa]
def v91:AV:= .agg [j (-3),.aa,j 1,.aa]
def bD:AV:= .agg [j 0,.aa,j 1,.aa]
def v93:AV:= .agg [j 1,.aa,j 4,.aa]
def YG:AV:= .agg [j (-1),.aa,j 4,.aa]
def CR:AV:= .agg [j 5,.aa,j 8,.aa]
def v96:AV:= .agg [j (-5),.aa,j 8,.aa]
def Fz:AV:= .agg [j 3,.aa,j 8,.aa]
def zB:AV:= .agg [j (-3),.aa,j 8,.aa]
def jF:AV:= .agg [j (-1),.aa,j 2,.aa]
def eW:AV:= .agg [j 1,.aa,j 2,.aa]
def SA:AV:= .agg [j 8388608,.aa,j 1,.aa]
def aii:AV:= .agg [j (-8388608),.aa,j 1,.aa]
def SB:AV:= .agg [j 11184810,.aa,j 1,.aa]
def aij:AV:= .agg [j (-11184810),.aa,j 1,.aa]
def v105:AV:= .agg [j 1,.aa,j 8,.aa]
def Ez:AV:= .agg [j (-5),.aa,j 2,.aa]
def v107:AV:= .agg [j 707,.aa,j 500,.aa]
def Cu:AV:= .agg [j (-1),.aa,j 3,.aa]
def v109:AV:= .agg [j 283,.aa,j 200,.aa]
def M9:AV:= .agg [j (-707),.aa,j 1000,.aa]
def Na:AV:= .agg [j 707,.aa,j 1000,.aa]
def nn:AV:= .agg [j (-2),.aa,j 3,.aa]
def Nb:AV:= .agg [j (-177),.aa,j 250,.aa]
def Nc:AV:= .agg [j 177,.aa,j 250,.aa]
def EA:AV:= .agg [j 16777217,.aa,j 1,.aa]
def AA:AV:= .agg [j (-3),.aa,j 2,.aa]
def v117:AV:= .agg [j 1,.aa,j 3,.aa]
def SD:AV:= .agg [j 11184811,.aa,j 1,.aa]
def Cv:AV:= .agg [j 11184810,.aa]
def SE:AV:= .agg [j 8388608,.aa]
def aik:AV:= .agg [j 1000000,.aa,j 1,.aa]
def oG:AV:= .agg [j 1414,.aa]
def SF:AV:= .agg [j 2828,.aa]
def v124:AV:= .agg [j 1417,.aa]
def EB:AV:= .agg [j 1415,.aa]
def SG:AV:= .agg [j 1512,.aa]
def v127:AV:= .agg [j (-708),.aa]
def sU:AV:= .agg [j 708,.aa]
def I4:AV:= .agg [j (-12),.aa]
def v130:AV:= .str [49,49]
def v131:AV:= .str [49,54,55,55,55,50,49,55]
def EC:AV:= .agg [j 15,.aa]
def SH:AV:= .agg [j 414,.aa]
def SI:AV:= .agg [j 415,.aa]
def SJ:AV:= .agg [j 170,.aa]
def SK:AV:= .agg [j 75,.aa]
def SL:AV:= .agg [j 172,.aa]
def v138:AV:= .agg [j 70,.aa]
def v139:AV:= .agg [j 20,.aa]
def Nf:AV:=w [17280761535336168307,17528012411317331584,461615552109]
def v141:AV:= .agg [j 30,.aa]
def Ng:AV:= .agg [j 103011146151,.aa]
def v143:AV:= .agg [j 233644530399045067,.aa]
def Nh:AV:= .agg [j 165659417062993,.aa]
def v145:AV:= .agg [j 56633202,.aa]
def v146:AV:= .agg [j 27724,.aa]
def SM:AV:= .agg [j 9,.aa]
def v148:AV:= .agg [j 13,.aa]
def Ni:AV:= .agg [j 7,.aa]
def SN:AV:= .agg [j 21418505775128880,.aa]
def SO:AV:= .agg [j 10863153207246784,.aa]
def v152:AV:= .agg [j 10555352567882096,.aa]
def SP:AV:= .agg [j 307800639364688,.aa]
def v154:AV:= .agg [j 90130829482704,.aa]
def SQ:AV:= .agg [j 3079557691198605696,.aa]
def SR:AV:= .agg [j 869142387409225424,.aa]
def v157:AV:= .agg [j 472130528970929424,.aa]
def SS:AV:= .agg [j 397011858438296000,.aa]
def v159:AV:= .agg [j 75118670532633424,.aa]
def v160:AV:= .agg [j 37408150916576,.aa]
def SU:AV:= .agg [j 15314527649552,.aa]
def v162:AV:= .agg [j 6779095617472,.aa]
def SV:AV:= .agg [j 1756336414608,.aa]
def v164:AV:= .agg [j 3708163600,.aa]
def SW:AV:= .agg [j 3314491344,.aa]
def SX:AV:= .agg [j 393672256,.aa]
def v167:AV:= .agg [j 1510086373648,.aa]
def v168:AV:= .agg [j 246250040960,.aa]
def SY:AV:= .agg [j 165113296,.aa]
def SZ:AV:= .agg [j 63445664,.aa]
def v171:AV:= .agg [j 38221968,.aa]
def S3:AV:= .agg [j 25223696,.aa]
def v173:AV:= .agg [j 32586127888,.aa]
def S4:AV:= .agg [j 18147145744,.aa]
def v175:AV:= .agg [j 12998272,.aa]
def S5:AV:= .agg [j 12225424,.aa]
def S6:AV:= .agg [j 772848,.aa]
def S7:AV:= .agg [j 632704,.aa]
def S8:AV:= .agg [j 14438982144,.aa]
def S9:AV:= .agg [j 2224,.aa]
def Ta:AV:= .agg [j 1888,.aa]
def v182:AV:= .agg [j 336,.aa]
def v183:AV:=w [5014872534286336000,4272233503850647016,18367099]
def Tb:AV:= .agg [j 208,.aa]
def Tc:AV:= .agg [j 128,.aa]
def Td:AV:= .agg [j 80,.aa]
def Tf:AV:= .agg [j 140144,.aa]
def Tg:AV:= .agg [j 68016,.aa]
def Th:AV:= .agg [j 4112,.aa]
def Ti:AV:= .agg [j 72128,.aa]
def I5:AV:=w [18064758389395912917,7182119875137284349,12987500417]
def ED:AV:= .agg [j 48,.aa]
def v193:AV:= .agg [j 5832619374768430096,.aa]
def v194:AV:= .agg [j 4915396281750918896,.aa]
def Tj:AV:= .agg [j 917223093017511200,.aa]
def v196:AV:= .agg [j 329280816663362896,.aa]
def Tk:AV:= .agg [j 258661459690785408,.aa]
def v198:AV:= .agg [j 616634671632512,.aa]
def Tl:AV:= .agg [j 211912954363632,.aa]
def Tm:AV:= .agg [j 192808762905248,.aa]
def v201:AV:= .agg [j 331140077104,.aa]
def Tn:AV:= .agg [j 111147935888,.aa]
def v203:AV:= .agg [j 108844205328,.aa]
def To:AV:= .agg [j 19104191458384,.aa]
def Tp:AV:= .agg [j 46803388773052944,.aa]
def v206:AV:= .agg [j 23815968199524544,.aa]
def Tq:AV:= .agg [j 22987420573528400,.aa]
def v208:AV:= .agg [j 1766848321408,.aa]
def Tt:AV:= .agg [j 1435708244304,.aa]
def v210:AV:= .agg [j 2303730560,.aa]
def Tu:AV:= .agg [j 70619356972577488,.aa]
def v212:AV:= .agg [j 568869008,.aa]
def Tv:AV:= .agg [j 828547625996144,.aa]
def I6:AV:=w [18064758389396037917,7182119875137284349,12987500417]
def Tw:AV:= .agg [j 38912,.aa]
def Tz:AV:= .agg [j 12016,.aa]
def TA:AV:= .agg [j 2864,.aa]
def v218:AV:= .agg [j 1805392,.aa]
def TB:AV:= .agg [j 167664,.aa]
def TC:AV:= .agg [j 128752,.aa]
def TD:AV:= .agg [j 3778448,.aa]
def v222:AV:= .agg [j 560,.aa]
def TE:AV:= .agg [j 28254528,.aa]
def TF:AV:= .agg [j 64,.aa]
def TG:AV:= .agg [j 36,.aa]
def v226:AV:= .agg [j 293,.aa]
def v227:AV:= .agg [j 292,.aa]
def v228:AV:= .agg [j 124,.aa]
def v229:AV:= .agg [j 44,.aa]
def TH:AV:= .agg [j 121,.aa]
def TI:AV:= .agg [j 51,.aa]
def v232:AV:= .str [55,48,55,47,53,48,48]
def v233:AV:= .str [50,56,51,47,50,48,48]
def v234:AV:= .str [49,47,56]
def ns:AV:= .str [49,47,50]
def v236:AV:= .str [45,49,55,55,47,50,53,48]
def Nj:AV:= .str [45,55,48,55,47,49,48,48,48]
def Nk:AV:= .str [55,48,55,47,49,48,48,48]
def Nl:AV:= .str [49,55,55,47,50,53,48]
def EE:AV:= .str [49,47,54]
def EF:AV:= .str [49,47,52]
def Nn:AV:= .str [49,47,51]
def EG:AV:= .str [45,53,47,50]
def sW:AV:= .agg [j 1,.aa,j 6,.aa]
def No:AV:= .agg [j 11184811,.aa,j 33554432,.aa]
def ail:AV:= .str [49,49,49,56,52,56,49,49,47,51,51,53,53,52,52,51,50]
def Np:AV:= .agg [j 2,.aa,j 3,.aa]
def TJ:AV:= .agg [j 16777216,.aa,j 1,.aa]
def I7:AV:= .agg [j 33554432,.aa,j 1,.aa]
def EH:AV:= .agg [j 16777217,.aa,j 2,.aa]
def EI:AV:= .agg [j 33554432,.aa,j 3,.aa]
def Nq:AV:= .agg [j (-2),.aa,j 1,.aa,j (-2),.aa,j 1,.aa]
def sX:AV:= .agg [j 2,.aa,j 1,.aa,j 2,.aa,j 1,.aa]
def Nr:AV:= .agg [j 1,.aa,j 33554432,.aa]
def aim:AV:= .ai false 2 [j 2,.aa,j 1,.aa,j 1,.aa,j 1,.aa]
def TK:AV:= .ai false 3 [j 1,.aa,j 1,.aa,j 0,.aa,j 1,.aa,j (-1),.aa,j 3,.aa]
def Ns:AV:= .ai false 3 [j 0,.aa,j 1,.aa,j 1,.aa,j 1,.aa,j (-2),.aa,j 3,.aa]
def ain:AV:= .ai false 2 [j 4,.aa,j 1,.aa,j 3,.aa,j 1,.aa]
def aio:AV:= .ai false 2 [j 1,.aa,j 1,.aa,j 2,.aa,j 1,.aa]
def q9:AV:= .agg [j 1,.aa,j 1,.aa,j 1,.aa,j 1,.aa]
def TL:AV:= .agg [j 4,.aa,j 1,.aa,j 4,.aa,j 1,.aa]
def I8:AV:= .agg [j 5,.aa,j 1,.aa,j 5,.aa,j 1,.aa]
def I9:AV:= .agg [j 3,.aa,j 1,.aa,j 3,.aa,j 1,.aa]
def Ja:AV:= .agg [j (-1),.aa,j 1,.aa,j (-1),.aa,j 1,.aa]
def aip:AV:= .agg [j 6,.aa,j 1,.aa,j 6,.aa,j 1,.aa]
def aiq:AV:= .ai true 4 [j (-1),.aa,j 1,.aa,j (-1),.aa,j 1,.aa,j (-1),.aa,j 1,.aa,j (-1),.aa,j 1,.aa]
def air:AV:= .ai true 4 [j (-2),.aa,j 1,.aa,j (-2),.aa,j 1,.aa,j (-2),.aa,j 1,.aa,j (-2),.aa,j 1,.aa]
def ais:AV:= .ai true 4 [j 1,.aa,j 1,.aa,j (-2),.aa,j 1,.aa,j (-2),.aa,j 1,.aa,j 4,.aa,j 1,.aa]
def ait:AV:= .ai false 4 [j 1,.aa,j 4,.aa,j 1,.aa,j 8,.aa,j 1,.aa,j 2,.aa,j 1,.aa,j 4,.aa]
def aiu:AV:= .ai false 4 [j 3,.aa,j 1,.aa,j (-4),.aa,j 1,.aa,j (-6),.aa,j 1,.aa,j 8,.aa,j 1,.aa]
def aiv:AV:= .ai true 4 [j 3,.aa,j 1,.aa,j 3,.aa,j 1,.aa,j 3,.aa,j 1,.aa,j 3,.aa,j 1,.aa]
def aiw:AV:= .ai true 4 [j 4,.aa,j 1,.aa,j 4,.aa,j 1,.aa,j 4,.aa,j 1,.aa,j 4,.aa,j 1,.aa]
def aix:AV:= .ai true 4 [j 1,.aa,j 1,.aa,j 1,.aa,j 1,.aa,j 1,.aa,j 1,.aa,j 1,.aa,j 1,.aa]
def aiy:AV:= .ai true 4 [j 6,.aa,j 1,.aa,j 6,.aa,j 1,.aa,j 6,.aa,j 1,.aa,j 6,.aa,j 1,.aa]
def Nt:AV:= .ai true 3 [j 1,.aa,j 1,.aa,j 2,.aa,j 1,.aa,j 3,.aa,j 1,.aa]
def aiz:AV:= .ai false 3 [j 3,.aa,j 1,.aa,j 4,.aa,j 1,.aa,j 11,.aa,j 1,.aa]
def Jb:AV:= .ai false 3 [j 1,.aa,j 1,.aa,j 2,.aa,j 1,.aa,j 5,.aa,j 1,.aa]
def aiA:AV:= .ai false 3 [j 0,.aa,j 1,.aa,j 1,.aa,j 1,.aa,j 2,.aa,j 1,.aa]
def TM:AV:= .ai true 3 [j 2,.aa,j 1,.aa,j 4,.aa,j 1,.aa,j 6,.aa,j 1,.aa]
def aiB:AV:= .ai false 3 [j 1,.aa,j 1,.aa,j 2,.aa,j 1,.aa,j 3,.aa,j 1,.aa]
def Nv:AV:= .str [45,49,47,56]
def TN:AV:= .agg [j (-1),.aa,j 8,.aa]
def Nw:AV:= .agg [j (-1),.aa,j 1,.aa,j 2,.aa,j 1,.aa]
def aiC:AV:= .ai true 3 [j (-3),.aa,j 1,.aa,j 0,.aa,j 1,.aa,j 1,.aa,j 1,.aa]
def aiD:AV:= .ai false 3 [j 1,.aa,j 1,.aa,j (-1),.aa,j 2,.aa,j 0,.aa,j 1,.aa]
def TO:AV:= .ai true 3 [j (-2),.aa,j 1,.aa,j 1,.aa,j 1,.aa,j 0,.aa,j 1,.aa]
def aiE:AV:= .ai false 3 [j 0,.aa,j 1,.aa,j (-3),.aa,j 2,.aa,j 1,.aa,j 1,.aa]
def aiF:AV:= .ai false 3 [j 0,.aa,j 1,.aa,j (-2),.aa,j 1,.aa,j (-4),.aa,j 1,.aa]
def AB:AV:= .ai true 2 [v0,v1]
def EJ:AV:= .ai true 2 [v1,v0]
def EK:AV:= .ai true 3 [v2,v0,v3]
def EL:AV:= .ai true 3 [v0,v2,v4]
def EM:AV:= .ai true 2 [v5,v6]
def sY:AV:= .agg [j 1,Yx]
def TP:AV:= .agg [j 1,.ai false 3 [u 8640380767668084153,u 17987378242513441600,u 230807776054]]
def de:AV:= .agg [j 1,w [8640380767668084153,17987378242513441600,230807776054]]
def TQ:AV:= .agg [j 1,w [16216789405050171313,13990962461900849178,13001944405576862530,2721289870473684565,16479346644060571776,2887]]
def TR:AV:= .agg [j 1,w [9632337040368467968,5421010862427]]
def TS:AV:= .agg [j 1,.ai false 3 [u 16114778996962784998,u 16609280748925111553,u 923231104219]]
def aiG:AV:= .agg [j 1,w [16616825203528040448,17030607900432772]]
def bC:AV:= .agg [j 1,w [13070572018536022016,10549268516463523069,293873587705]]
def TU:AV:= .agg [j 1,w [7585187672398757888,569008837486978856,2854786896515372131,13854840613988277292,18078004663405200202,3676]]
def TV:AV:= .agg [j 1,w [16800268943940132986,10498901635650969125,15552186833516458699,617515930402880608,1347820176139651620,1134]]
def aiH:AV:= .agg [j 1,.ai false 2 [u 17463089541855990736,u 17030607900432772]]
def aiI:AV:= .agg [j 1,w [16114359280022847488,16609280748925111553,923231104219]]
def TW:AV:= .agg [j 1,.ai false 2 [u 15956439711762054671,u 1659663893673001552]]
def TX:AV:= .agg [j 1,w [12234476317405662167,11692049235685359344,15353889696288128096,15111976797126571406,20765904853]]
def TY:AV:= .agg [j 1,.ai false 3 [u 2023799238178458475,u 7999906463597924033,u 75241462]]
def TZ:AV:= .agg [j 1,.ai false 5 [u 8068274122100154195,u 10164474085895960830,u 8661451129107458488,u 11709122817828559434,u 17366314611440665278]]
def Ua:AV:= .agg [j 1,w [5057613930186074076,12163321890431987431,9297356646049816308,12453774809672462324,136989]]
def Ub:AV:= .agg [j 1,.ai false 5 [u 16600421415523125331,u 6593959610220467789,u 9621704098130034456,u 15503065397907737844,u 1669347581099524]]
def Uc:AV:= .agg [j 1,w [3597362798407890137,9139644163598633729,5680]]
def Ud:AV:= .agg [j 1,.ai false 5 [u 724442254058341841,u 12242707536774606347,u 15727830659569986504,u 12988536605132093096,u 1311102524267539]]
def Nx:AV:= .agg [j 1,w [11635806404526227817,5431237391449305]]
def Ue:AV:= .agg [j 1,w [11628999839319665121,7983186536062692438,6928779995928134897,13333596706826726224,67956264]]
def Uf:AV:= .agg [j 1,w [17862480628081892373,5412527530760177011,9289918553171977696,1669267044269566458,26439971242]]
def Ug:AV:= .agg [j 1,.ai false 3 [u 12004326465849222656,u 12583738487651288622,u 71186920073]]
def Uh:AV:= .agg [j 1,w [5415264564868724224,2702429455317848186,3257820634772804819,2921037779272485671,12892480808343775952,890]]
def Ui:AV:= .agg [j 1,w [3357387301995924548,10998580160438829665,17305001410530887765,13223409123470817412,3664734435888764724,1]]
def Ny:AV:= .agg [j 1,w [6941760015582258140,11976423673148936281,4659173023]]
def Uj:AV:= .agg [j 1,w [9499324417185814012,2579272376208973014,10473475704207649438,8359000212588520640,5462207568661732176,58]]
def Uk:AV:= .agg [j 1,.ai false 3 [u 7618611272510715734,u 13374841863731521290,u 3659305935]]
def Ul:AV:= .agg [j 1,w [3674031232874724134,12529952070501274096,329920358137583042,5544844341389442335,14492781612538992981,45]]
def Nz:AV:= .agg [j 1,w [13621876266353651619,14736531200132615338,33]]
def Um:AV:= .agg [j 1,.ai false 5 [u 17292431025786201035,u 11946252089032414340,u 13964961894145495040,u 13986844084537750418,u 7801041777162]]
def Un:AV:= .agg [j 1,w [16370927238490033171,10063982856075116439,26]]
def Uo:AV:= .agg [j 1,.ai false 5 [u 11009532767374467259,u 8124201305943929203,u 16104677368926751221,u 7314726601207293494,u 6126923884370]]
def Up:AV:= .agg [j 1,.ai false 2 [u 12366545110363778517,u 4265683872219832]]
def Uq:AV:= .agg [j 1,w [13230967557627232237,3500369219144259201,2487962285782537470,9309154521224901510,53372725]]
def Ur:AV:= .agg [j 1,w [4021442947409540411,9486481206710503630,828798]]
def Us:AV:= .agg [j 1,.ai false 5 [u 14550886082860770979,u 14470342835219398496,u 12822340539202483276,u 829795195913251750,u 191293141874751367]]
def NA:AV:= .agg [j 1,w [6615404896634909228,792797273462150915,1055259]]
def Ut:AV:= .agg [j 1,.ai false 5 [u 14189355548283026892,u 14716625746279442152,u 12318077660473956507,u 13146092726962069828,u 243561992871567315]]
def Uu:AV:= .agg [j 1,w [14104395762648518710,19]]
def Uv:AV:= .agg [j 1,.ai false 4 [u 6557673277525087494,u 15976676401898429601,u 8523590972869011769,u 4561823561349]]
def Uw:AV:= .agg [j 1,w [17533984222864527674,12353584992072517549,14264124144876419712,2639106]]
def Ux:AV:= .agg [j 1,w [17236632546876903068,11135480475144698162,1148068112344762910,1641]]
def Uy:AV:= .agg [j 1,w [1882113692433447380,6589440540014481872,11201623559418453978,4739216728]]
def Uz:AV:= .agg [j 1,w [13944175567244065250,4096355134818525490,2743784780152768049,1]]
def UA:AV:= .agg [j 1,.ai false 2 [u 8262468237226232984,u 13958642011]]
def UB:AV:= .agg [j 1,w [10141935774598533592,8309989412897469218,9297645483805615959,12029650584374213082,174]]
def UC:AV:= .agg [j 1,w [16079647657453681551,9047855698823632873,8583923049414943528,2089]]
def UD:AV:= .agg [j 1,.ai false 2 [u 10209694078816097337,u 8598981274288]]
def UE:AV:= .agg [j 1,w [4511974855030608433,637104959086601153,12451904279572219604,8102622432476352004,107591]]
def UF:AV:= .agg [j 1,.ai false 4 [u 17876293434389998218,u 17941419946077638974,u 11792391544926169901,u 5476984495424500642]]
def UG:AV:= .agg [j 1,w [13956796289713155025,20826]]
def UH:AV:= .agg [j 1,.ai false 4 [u 6113462245698230025,u 11899689605548549250,u 7204198040994281268,u 4806977373155694]]
def NB:AV:= .agg [j 1,w [14334071515131066545,17772694999]]
def UI:AV:= .agg [j 1,w [15852820823071556841,16643281740854508204,6733274196778773178,6899023038396955358,222]]
def UJ:AV:= .agg [j 1,w [18173646507131229515,13627204094284174079,1964443467344395986,3360215]]
def UK:AV:= .agg [j 1,w [8797682231043936192,18637212]]
def UL:AV:= .agg [j 1,.ai false 4 [u 5361003646381842880,u 16435824858651011218,u 7726429105647848976,u 4301613563662702939]]
def UM:AV:= .agg [j 1,w [3045029095724553698,25]]
def UN:AV:= .agg [j 1,.ai false 4 [u 11025444859222714962,u 2417956740003135128,u 13421244786285755757,u 5808294154414]]
def NC:AV:= .agg [j 1,w [8302713205355927860,26517]]
def UO:AV:= .agg [j 1,.ai false 4 [u 4244187385348643476,u 4734386098559386715,u 10417457931255205964,u 6120433682148984]]
def UP:AV:= .agg [j 1,w [494431295515953084,10681898006951248689,10894471581772944298,3722172114]]
def UQ:AV:= .agg [j 1,.ai false 3 [u 6974583969644181956,u 17520943641721873814,u 8147514494740620]]
def UR:AV:= .agg [j 1,.ai false 3 [u 7791533900303611049,u 2546863062074383501,u 16643002409318332171]]
def nt:AV:= .agg [j 1,w [6450984253743169536,13015503840481697412,293873587]]
def US:AV:= .agg [j 1,.ai false 3 [u 9697743876229720706,u 13696713614337051836,u 10373886302566910]]
def UT:AV:= .agg [j 1,.ai false 3 [u 10284866305095868446,u 12015622436964011398,u 3231308864769]]
def UU:AV:= .agg [j 1,.ai false 3 [u 16593281996017185979,u 9718793280983461320,u 4385347745044]]
def aiJ:AV:= .agg [j 1,w [228755338261016246,15834360252274472699,203235585999]]
def aiK:AV:= .agg [j 1,w [11956471268774780203,4233453559939239903,207800006678]]
def aiL:AV:= .agg [j 1,.ai false 3 [u 12335241514720210847,u 4233453559939239903,u 207800006678]]
def aiM:AV:= .agg [j 1,w [6698787159143406041,4233453559939213411,207800006678]]
def aiN:AV:= .agg [j 1,.ai false 3 [u 15001500364499333901,u 4233453559939239928,u 207800006678]]
def aiO:AV:= .agg [j 1,.ai false 3 [u 8003386255225394266,u 3252936194182942452,u 207800013877]]
def aiP:AV:= .agg [j 1,w [17611961318384703471,10051395827332337828,207800006644]]
def aiQ:AV:= .agg [j 1,.ai false 3 [u 15905803109429250494,u 4233464490753250908,u 207800006678]]
def aiR:AV:= .agg [j 1,w [9506358627869775106,4233453542190248047,207800006678]]
def aiS:AV:= .agg [j 1,.ai false 3 [u 12787093511028803474,u 6341182953755401551,u 207800006678]]
def aiT:AV:= .agg [j 1,w [4269996704903022677,4228033253361801603,207800006678]]
def aiU:AV:= .agg [j 1,.ai false 3 [u 7170515353843274386,u 9364039851713857364,u 207894759023]]
def aiV:AV:= .agg [j 1,w [1387981358590485038,2460138920720791537,207798958618]]
def aiW:AV:= .agg [j 1,.ai false 3 [u 5393686069291290035,u 4233453559962943047,u 207800006678]]
def aiX:AV:= .agg [j 1,.ai false 3 [u 12334973124784097795,u 4233453559939239903,u 207800006678]]
def aiY:AV:= .agg [j 1,w [12334973124692287505,4233453559939239903,207800006678]]
def aiZ:AV:= .agg [j 1,w [12334972957788717692,4233453559939239903,207800006678]]
def ND:AV:= .agg [j 1,.ai false 3 [u 12334973124692332432,u 4233453559939239903,u 207800006678]]
def EN:AV:= .agg [j 1,.ai false 3 [u 12334973124693332432,u 4233453559939239903,u 207800006678]]
def EO:AV:= .agg [j 1,w [12334973124691332432,4233453559939239903,207800006678]]
def ai0:AV:= .agg [j 1,w [12334973124692332432,4233453559939239903,207800006678]]
def ai1:AV:= .agg [j 1,.ai false 3 [u 12334973124692332451,u 4233453559939239903,u 207800006678]]
def Jc:AV:= .ae [v8,v10]
def EP:AV:= .ae [v9,v10]
def EQ:AV:= .ae [v10,v9]
def Jd:AV:= .ae [v10,v8]
def NE:AV:= .ae [v21,v10]
def NF:AV:= .agg [j 1,.ai false 3 [u 9514143892148891222,u 14589875561820374064,u 55910076283]]
def NG:AV:= .agg [j 1,.ai false 3 [u 7236889286840459925,u 7876560602087652357,u 181276003411]]
def NH:AV:= .agg [j 1,w [2225215780011097513,15327931522679171057,650936]]
def NI:AV:= .agg [j 1,.ai false 3 [u 7455323194197715914,u 4202843118986907043,u 2874012161]]
def NJ:AV:= .agg [j 1,w [585116523289769433,15658363997444158300,20]]
def NK:AV:= .agg [j 1,w [1527792737363884452,7503159166461348028,59094506]]
def NL:AV:= .agg [j 1,.ai false 2 [u 7135181956152382277,u 1303496973947833351]]
def NM:AV:= .agg [j 1,w [8753492008855507006,8313990678002305033,4461]]
def NN:AV:= .agg [j 1,w [8305159076503378217,14637632]]
def NO:AV:= .agg [j 1,.ai false 2 [u 2875139543986997541,u 3350260278875572]]
def NP:AV:= .agg [j 1,.ai false 2 [u 5157674005487560540,u 6753624099915]]
def NQ:AV:= .agg [j 1,.ai false 2 [u 5785850920737608665,u 10963091799]]
def NR:AV:= .agg [j 1,w [5467296334037880926,16357]]
def NS:AV:= .agg [j 1,w [9649144829102292634,15]]
def UW:AV:= .agg [j 1,.ai false 3 [u 349704605168908272,u 17270539680539398753,u 77094]]
def UX:AV:= .agg [j 1,.ai false 3 [u 9267470765430408848,u 17447578655697668941,u 33219]]
def UY:AV:= .agg [j 1,.ai false 3 [u 261507148017642192,u 822126442853612486,u 10655]]
def UZ:AV:= .agg [j 1,.ai false 3 [u 7834891934529719632,u 7197531120445425756,u 31380170]]
def U1:AV:= .agg [j 1,.ai false 3 [u 9723933137813899312,u 3577955977601520452,u 11452054]]
def U2:AV:= .agg [j 1,.ai false 3 [u 6833769732611472624,u 41619165242384851,u 8476062]]
def U3:AV:= .agg [j 1,.ai false 3 [u 1053442922206619248,u 11415689614233665265,u 2524077]]
def U4:AV:= .agg [j 1,.ai false 3 [u 1836720482995807440,u 10567391271835021952,u 451914]]
def U5:AV:= .agg [j 1,.ai false 3 [u 10316584580937133664,u 13918965476187210352,u 264504]]
def U6:AV:= .agg [j 1,.ai false 3 [u 2890163405202426688,u 3536336812359135601,u 2975992]]
def U7:AV:= .agg [j 1,.ai false 3 [u 9966879975768225392,u 15095169869357363215,u 187409]]
def U8:AV:= .agg [j 1,.ai false 3 [u 16893689183768430832,u 12684534469197727453,u 3]]
def U9:AV:= .agg [j 1,.ai false 3 [u 7441730033706885616,u 1715340864178252272,u 1]]
def Va:AV:= .agg [j 1,.ai false 2 [u 13015243156357325600,u 7538511876662970636]]
def Vb:AV:= .agg [j 1,.ai false 2 [u 3833049185714940912,u 40786512933943980]]
def Vc:AV:= .agg [j 1,.ai false 2 [u 13551512549659598096,u 15013748623870650]]
def Vd:AV:= .agg [j 1,.ai false 2 [u 13623512233814847952,u 10759015686202678]]
def Ve:AV:= .agg [j 1,.ai false 3 [u 14559915651415052928,u 13228462717394739238,u 21]]
def Vf:AV:= .agg [j 1,.ai false 3 [u 4335620253824644048,u 8637665728864155564,u 8]]
def Vg:AV:= .agg [j 1,.ai false 3 [u 5888675143765764832,u 14399875333375979726,u 4]]
def Vh:AV:= .agg [j 1,.ai false 3 [u 8482949321377482272,u 14981199327136831483,u 1254]]
def Vi:AV:= .agg [j 1,.ai false 3 [u 6184888871835990480,u 10099740341725821930,u 616]]
def Vj:AV:= .agg [j 1,.ai false 2 [u 18304731868411337648,u 5085061184561862614]]
def Vk:AV:= .agg [j 1,.ai false 2 [u 13157255361655539568,u 2453450692101108021]]
def Vl:AV:= .agg [j 1,.ai false 2 [u 10436965218809810128,u 178159800359646571]]
def Vm:AV:= .agg [j 1,.ai false 2 [u 6603916033094869216,u 137373287425702591]]
def Vn:AV:= .agg [j 1,.ai false 2 [u 18374744389554301760,u 4254732937667971]]
def Vo:AV:= .agg [j 1,.ai false 2 [u 7916510896190665120,u 5581036710]]
def Vp:AV:= .agg [j 1,.ai false 2 [u 16347454578296750992,u 3577109470]]
def Vq:AV:= .agg [j 1,.ai false 2 [u 10015800391603465744,u 2003927239]]
def Vr:AV:= .agg [j 1,.ai false 2 [u 16399614008783666512,u 6881587320788]]
def Vs:AV:= .agg [j 1,.ai false 2 [u 995144945467656128,u 2078543031735]]
def Vt:AV:= .agg [j 1,.ai false 2 [u 13414179172380698128,u 645958225583]]
def Vu:AV:= .agg [j 1,.ai false 2 [u 5111978564696012016,u 50249654277257]]
def Vv:AV:= .agg [j 1,.ai false 2 [u 7159108629621897120,u 43368066956468]]
def Vw:AV:= .agg [j 1,.ai false 2 [u 13767511602125347664,u 2249549810866734]]
def Vx:AV:= .agg [j 1,.ai false 2 [u 4607232787428954096,u 2005183126801237]]
def Vy:AV:= .agg [j 1,.ai false 2 [u 9160278814696393568,u 244366684065497]]
def Vz:AV:= .agg [j 1,.ai false 2 [u 11709786853761729984,u 57383549335]]
def VA:AV:= .agg [j 1,.ai false 2 [u 11120010015640308240,u 25901256312]]
def VB:AV:= .agg [j 1,.ai false 2 [u 4383052795692486608,u 83284805648]]
def VD:AV:= .agg [j 1,.ai false 2 [u 16092839649454216592,u 140668354983]]
def VF:AV:= .agg [j 1,.ai false 2 [u 6331654186693285248,u 1573182231]]
def VG:AV:= .agg [j 1,.ai false 2 [u 3684146204910180496,u 430745008]]
def VH:AV:= .agg [j 1,.ai false 2 [u 9170180249816038160,u 281199]]
def VI:AV:= .agg [j 1,.ai false 2 [u 2286845318953838880,u 48233]]
def VJ:AV:= .agg [j 1,.ai false 2 [u 16182697728756395376,u 40033]]
def VK:AV:= .agg [j 1,.ai false 2 [u 3083901620222578096,u 18648396]]
def VL:AV:= .agg [j 1,.ai false 2 [u 2180461744876363584,u 610632]]
def VM:AV:= .agg [j 1,.ai false 2 [u 11457025568769877040,u 329432]]
def VN:AV:= .agg [j 1,.ai false 2 [u 5321029012724858640,u 131149405]]
def VO:AV:= .agg [j 1,.ai false 2 [u 8404930632947436736,u 149797801]]
def VP:AV:= .agg [j 1,.ai false 2 [u 4550891663906995120,u 8199]]
def VQ:AV:= .agg [j 1,.ai false 2 [u 16425875146837966512,u 7236]]
def VR:AV:= .agg [j 1,.ai false 2 [u 6571760590778580224,u 962]]
def VS:AV:= .agg [j 1,.ai false 2 [u 7317039158807008176,u 500]]
def VT:AV:= .agg [j 1,.ai false 2 [u 13725959645672295376,u 280947206]]
def VU:AV:= .agg [j 1,.ai false 2 [u 17701465505681123664,u 461]]
def VV:AV:= .agg [j 1,.ai false 2 [u 8062317726835436128,u 38]]
def VW:AV:= .agg [j 1,.ai false 1 [u 13187373152203648208]]
def VX:AV:= .agg [j 1,w [10107815461005042512]]
def NT:AV:= .agg [j 1,v183]
def VY:AV:= .agg [j 1,.ai false 3 [u 9267470758912408848,u 17447578655697668941,u 33219]]
def VZ:AV:= .agg [j 1,.ai false 3 [u 261507163619642192,u 822126442853612486,u 10655]]
def V1:AV:= .agg [j 1,.ai false 3 [u 8482949268053482272,u 14981199327136831483,u 1254]]
def V2:AV:= .agg [j 1,.ai false 3 [u 10316584582117133664,u 13918965476187210352,u 264504]]
def V3:AV:= .agg [j 1,.ai false 3 [u 9966879974382225392,u 15095169869357363215,u 187409]]
def V4:AV:= .agg [j 1,.ai false 3 [u 349704607734908272,u 17270539680539398753,u 77094]]
def V5:AV:= .agg [j 1,.ai false 3 [u 1836720482789807440,u 10567391271835021952,u 451914]]
def V6:AV:= .agg [j 1,.ai false 3 [u 6833769732649472624,u 41619165242384851,u 8476062]]
def V7:AV:= .agg [j 1,.ai false 3 [u 2890163405146426688,u 3536336812359135601,u 2975992]]
def V8:AV:= .agg [j 1,.ai false 3 [u 1053442922356619248,u 11415689614233665265,u 2524077]]
def V9:AV:= .agg [j 1,.ai false 3 [u 6184889314029990480,u 10099740341725821930,u 616]]
def Wa:AV:= .agg [j 1,.ai false 3 [u 7834891934531719632,u 7197531120445425756,u 31380170]]
def Wb:AV:= .agg [j 1,.ai false 3 [u 9723933137795899312,u 3577955977601520452,u 11452054]]
def Wc:AV:= .agg [j 1,.ai false 3 [u 14559914713703052928,u 13228462717394739238,u 21]]
def We:AV:= .agg [j 1,.ai false 3 [u 4335646951954644048,u 8637665728864155564,u 8]]
def Wf:AV:= .agg [j 1,.ai false 3 [u 5888620809793764832,u 14399875333375979726,u 4]]
def Wg:AV:= .agg [j 1,.ai false 3 [u 16893770215870430832,u 12684534469197727453,u 3]]
def Wh:AV:= .agg [j 1,.ai false 2 [u 6661453620722869216,u 137373287425702591]]
def Wi:AV:= .agg [j 1,.ai false 2 [u 3771208457272940912,u 40786512933943980]]
def Wj:AV:= .agg [j 1,.ai false 2 [u 13794572322613598096,u 15013748623870650]]
def Wk:AV:= .agg [j 1,.ai false 2 [u 10432662077995810128,u 178159800359646571]]
def Wl:AV:= .agg [j 1,.ai false 2 [u 13075551959464847952,u 10759015686202678]]
def Wm:AV:= .agg [j 1,.ai false 2 [u 719020363148750144,u 4254732937667972]]
def Wn:AV:= .agg [j 1,.ai false 2 [u 11637511233167347664,u 2249549810866734]]
def Wo:AV:= .agg [j 1,.ai false 2 [u 13015730286681325600,u 7538511876662970636]]
def Wp:AV:= .agg [j 1,.ai false 2 [u 18303622241689337648,u 5085061184561862614]]
def Wq:AV:= .agg [j 1,.ai false 2 [u 13158852118701539568,u 2453450692101108021]]
def Wr:AV:= .agg [j 1,.ai false 3 [u 7441594667632885616,u 1715340864178252272,u 1]]
def Ws:AV:= .agg [j 1,.ai false 2 [u 7528253203690954096,u 2005183126801237]]
def Wt:AV:= .agg [j 1,.ai false 2 [u 4109258029476393568,u 244366684065497]]
def Wu:AV:= .agg [j 1,.ai false 2 [u 11547677115298908784,u 50249654277259]]
def Wv:AV:= .agg [j 1,.ai false 2 [u 13258781789409413280,u 43368066956458]]
def Ww:AV:= .agg [j 1,.ai false 2 [u 16735639399599047120,u 6881587320800]]
def Wx:AV:= .agg [j 1,.ai false 2 [u 14569274984651841296,u 430427458]]
def Wy:AV:= .agg [j 1,.ai false 2 [u 10013737208167830608,u 282104579]]
def Wz:AV:= .agg [j 1,.ai false 2 [u 4555537776484010688,u 148322879]]
def WA:AV:= .agg [j 1,.ai false 2 [u 5078665760362888640,u 2078543031653]]
def WB:AV:= .agg [j 1,.ai false 2 [u 1499642118510381200,u 645958225841]]
def WC:AV:= .agg [j 1,.ai false 2 [u 11331934866641240592,u 3577201370]]
def WD:AV:= .agg [j 1,.ai false 2 [u 12950604925646540944,u 2003814414]]
def WE:AV:= .agg [j 1,.ai false 2 [u 16828074014704251264,u 1573386955]]
def WG:AV:= .agg [j 1,.ai false 2 [u 579739404831745040,u 140668354130]]
def WH:AV:= .agg [j 1,.ai false 2 [u 17627428572892952656,u 83284809320]]
def WI:AV:= .agg [j 1,.ai false 2 [u 1399054905648344000,u 57383544809]]
def WJ:AV:= .agg [j 1,.ai false 2 [u 16228373667244608656,u 25901264511]]
def WK:AV:= .agg [j 1,.ai false 2 [u 5835795718578229920,u 5581015785]]
def WL:AV:= .agg [j 1,.ai false 2 [u 5458199431683819920,u 133781700]]
def WM:AV:= .agg [j 1,.ai false 2 [u 17544082418509742384,u 14541178]]
def WO:AV:= .agg [j 1,.ai false 2 [u 13582154328482103008,u 2911089]]
def WQ:AV:= .agg [j 1,.ai false 2 [u 11931193853426722832,u 2]]
def WR:AV:= .agg [j 1,.ai false 2 [u 1183178196907373840,u 2]]
def WS:AV:= .agg [j 1,.ai false 1 [u 10748015656519348992]]
def WT:AV:= .agg [j 1,.ai false 2 [u 6765365049588146096,u 27]]
def WU:AV:= .agg [j 1,.ai false 2 [u 83271609768439104,u 10]]
def WV:AV:= .agg [j 1,.ai false 2 [u 6598821830051267888,u 7]]
def WW:AV:= .agg [j 1,.ai false 2 [u 108953252000433584,u 2896820]]
def WX:AV:= .agg [j 1,.ai false 2 [u 13473201076481669424,u 14269]]
def WY:AV:= .agg [j 1,.ai false 2 [u 13614001708944731296,u 64]]
def Je:AV:= .ae [v10,v10]
def Cw:AV:= .agg [iG,v1]
def ER:AV:= .agg [v0,v1]
def Jf:AV:= .agg [v12,v5]
def NU:AV:= .agg [v5,nL]
def Jg:AV:= .agg [v0,v0]
def WZ:AV:= .agg [j 1,Nf,j 2,.aa]
def W0:AV:= .agg [v6,v6,iG,iG]
def Jh:AV:= .agg [v0,v0,v1,v1]
def NV:AV:= .ai true 2 [v6,v5]
def NW:AV:= .ai true 3 [v1,v5,.str [54]]
def NX:AV:= .ai true 2 [v2,v0]
def NY:AV:= .ai true 2 [v0,v2]
def NZ:AV:= .ai true 3 [v0,v1,v6]
def N1:AV:= .ae [.agg [JY,nL],j 0]
def W1:AV:= .ae [.agg [v234,ns],j 0]
def W2:AV:= .ae [.agg [v232,v233],j 0]
def W3:AV:= .ae [.agg [Nk,Nl],j 0]
def W4:AV:= .ae [.agg [v236,Nj],j 0]
def AD:AV:= .ai true 2 [AB,NV]
def Cx:AV:= .ai true 2 [NX,NY]
def AE:AV:= .ai true 2 [NZ,NW]
def ai2:AV:= .ae [.agg [v0,v0,pg,pg],j 0]
def ai3:AV:= .ae [.agg [fm,fm,fm,fm],j 0]
def ai4:AV:= .ae [.agg [ns,ns],j 0]
def ahg:an:=[.m 55467 [AB,AB] (.bool true) (.m 51820 [EJ,EJ] (.bool true) (.o 38327 [EK,EK] (.bool true))
 (.l))
 (.m 63514 [EL,EL] (.bool true) (.o 60170 [EM,EM] (.bool true))
 (.l))]
def ahh:an:=[.o 31699 [.ai false 3 [j 0,j 2,j 1],.ai true 3 [j 0,j 2,j 1]] (.bool true)]
def ahi:an:=[.m 28700 [v7] (.str [45,53]) (.m 28694 [v8] (v1) (.m 28693 [v9] (v0) (.o 28692 [v10] (v2))
 (.l))
 (.o 28696 [v11] (v12)))
 (.m 29192 [Yu] (.str [53,48,48]) (.o 28702 [pX] (JY))
 (.o 29399 [iF] (.str [55,48,55]))),
 .m 28700 [ck] (nL) (.o 28696 [bE] (v5))
 (.l)]
def k0:List (Nat×an):=[(29,ahg),(59,ahh),(99,ahi)]
def ahj:an:=[.m 28892 [v20] (.str [50,48,48]) (.m 28695 [v21] (v6) (.m 28692 [v22] (iG) (.o 9412 [v24] (.str [49,49,49,56,52,56,49,49]))
 (.o 28694 [v25] (pg)))
 (.m 28698 [v27] (.str [54]) (.o 28697 [v28] (fm))
 (.o 28869 [v30] (.str [49,55,55]))))
 (.m 29692 [v31] (.str [49,48,48,48]) (.m 28975 [Yv] (.str [50,56,51]) (.o 28942 [v33] (.str [50,53,48]))
 (.o 29044 [Yw] (.str [45,49,55,55])))
 (.m 36372 [v35] (.str [51,51,53,53,52,52,51,50]) (.o 30104 [v36] (.str [45,55,48,55]))
 (.l)))]
def af1:an:=[.m 40563 [v9,v37] (v37) (.o 40562 [v10,v37] (v10))
 (.l)]
def k1:List (Nat×an):=[(99,ahj),(100,af1)]
def af2:an:=[.m 38203 [ck,v9] (ck) (.m 38198 [v21,v9] (v21) (.m 38196 [v9,v9] (v9) (.o 38195 [v22,v9] (v22))
 (.o 38197 [v8,v9] (v8)))
 (.m 38201 [v38,v9] (v38) (.o 38199 [v11,v9] (v11))
 (.l)))
 (.m 38985 [v9,bE] (bE) (.m 38459 [v9,v8] (v8) (.o 38205 [pX,v9] (pX))
 (.o 38984 [v22,v11] (v21)))
 (.m 40037 [v9,ck] (ck) (.o 38986 [v8,v11] (pX))
 (.l))),
 .m 38984 [v22,bE] (v38) (.o 38199 [bE,v9] (bE))
 (.o 38986 [v8,bE] (ck))]
def k2:List (Nat×an):=[(100,af2)]
def af3:an:=[.m 39510 [v10,v27] (v10) (.m 38201 [v27,v9] (v27) (.m 37934 [v8,v22] (v25) (.m 37932 [v22,v22] (v9) (.o 36640 [v8,OJ] (v40))
 (.l))
 (.o 38197 [v25,v9] (v25)))
 (.m 38460 [v8,v8] (bE) (.o 38458 [v22,v8] (v25))
 (.o 38988 [bE,bE] (eY))))
 (.m 40572 [v37,v37] (v42) (.m 39848 [v31,v31] (OJ) (.o 39747 [ck,A7] (v44))
 (.o 40036 [v10,ck] (v10)))
 (.m 64233 [v9,v42] (v42) (.o 42156 [eY,eY] (A7))
 (.o 64242 [v37,v42] (v31))))]
def k3:List (Nat×an):=[(100,af3)]
def af4:an:=[.m 46102 [sY,v9] (sY) (.m 25125 [TP,de] (TQ) (.m 20968 [v46,v46] (TR) (.m 19736 [v10,JZ] (v10) (.o 14861 [.agg [j 10000000,.aa],v48] (v49))
 (.l))
 (.o 22125 [v42,v46] (JZ)))
 (.m 39210 [TS,v8] (sY) (.o 26453 [Yy,JZ] (aiG))
 (.o 42749 [bC,de] (TU))))
 (.m 54941 [JZ,TR] (bC) (.m 51345 [.agg [j 1,v51],de] (TV) (.o 48092 [v31,OK] (.agg [j 10000000,.aa]))
 (.o 54528 [v48,v48] (v46)))
 (.m 63598 [aiH,v49] (aiI) (.o 57092 [OK,OK] (v48))
 (.o 64332 [v42,v42] (OK))))]
def k4:List (Nat×an):=[(100,af4)]
def af5:an:=[.m 38534 [TW,de] (TX) (.m 15100 [TY,de] (TZ) (.m 7612 [.agg [j 1,v53],de] (Ua) (.m 3239 [.agg [j 1,OL],de] (Ub) (.o 1139 [Uc,de] (Ud))
 (.l))
 (.o 14466 [Nx,de] (Ue)))
 (.m 24752 [.agg [j 1,OM],de] (Uf) (.o 21686 [Ug,de] (Uh))
 (.o 30765 [.agg [j 1,ON],de] (Ui))))
 (.m 44660 [Ny,de] (Uj) (.m 42033 [Uk,de] (Ul) (.o 39135 [Nz,de] (Um))
 (.o 44380 [Un,de] (Uo)))
 (.m 58192 [Up,de] (Uq) (.o 51616 [Ur,de] (Us))
 (.o 60912 [NA,de] (Ut))))]
def k5:List (Nat×an):=[(100,af5)]
def af6:an:=[.m 39915 [Uu,de] (Uv) (.m 20531 [Yz,de] (Uw) (.m 9412 [YA,de] (Ux) (.m 5118 [v59,de] (Uy) (.o 1081 [YB,de] (Uz))
 (.l))
 (.o 9415 [UA,de] (UB)))
 (.m 27485 [OO,de] (UC) (.o 21645 [UD,de] (UE))
 (.o 35756 [.agg [j 1,OP],de] (UF))))
 (.m 45962 [UG,de] (UH) (.m 44737 [NB,de] (UI) (.o 44520 [v63,de] (UJ))
 (.o 44885 [UK,de] (UL)))
 (.m 57180 [UM,de] (UN) (.o 54647 [NC,de] (UO))
 (.o 59662 [YC,de] (UP))))]
def k6:List (Nat×an):=[(100,af6)]
def af7:an:=[.m 38722 [v9,v21] (v21) (.m 37933 [v9,v22] (v22) (.m 21012 [v65,de] (UQ) (.m 20245 [YD,de] (UR) (.o 9837 [v49,TR] (nt))
 (.l))
 (.o 30658 [OQ,de] (US)))
 (.m 38462 [v11,v8] (pX) (.o 38203 [v7,v9] (v7))
 (.o 38463 [v28,v8] (v37))))
 (.m 40036 [v22,ck] (.agg [j (-8),.aa]) (.m 38987 [v21,bE] (v68) (.o 38984 [v10,bE] (v10))
 (.o 38992 [ck,bE] (v69)))
 (.m 51247 [v70,de] (UT) (.o 40038 [v8,ck] (eY))
 (.o 51252 [Fx,de] (UU))))]
def k7:List (Nat×an):=[(100,af7)]
def af8:an:=[.m 37938 [v38,v22] (bE) (.m 37935 [v21,v10] (v10) (.m 37933 [v9,v10] (v10) (.o 37932 [v10,v22] (v10))
 (.o 37934 [v8,v10] (v10)))
 (.m 37937 [v28,v10] (v10) (.o 37936 [bE,v10] (v10))
 (.l)))
 (.m 38985 [v9,v11] (v11) (.m 38206 [v72,v9] (v72) (.o 38200 [v28,v9] (v28))
 (.o 38723 [v8,v21] (v27)))
 (.m 64232 [v10,v42] (v10) (.o 38989 [v28,v11] (v73))
 (.l))),
 .m 37934 [v25,v22] (v8) (.o 37932 [v10,v10] (v10))
 (.l),
 .o 37934 [v25,v10] (v10)]
def k8:List (Nat×an):=[(100,af8)]
def af9:an:=[.m 39575 [v9,v48] (v48) (.m 38458 [v10,v25] (v10) (.m 26622 [v9,v35] (v35) (.m 18915 [v24,v9] (v24) (.o 157 [.agg [j (-11184810),.aa],v21] (.agg [j (-33554430),.aa]))
 (.l))
 (.o 37938 [v38,v10] (v10)))
 (.m 38460 [v8,v25] (v38) (.o 38459 [v9,v25] (v25))
 (.o 39574 [v10,v48] (v10))))
 (.m 42036 [mQ,v9] (mQ) (.m 39741 [v8,A7] (.agg [j 512,.aa]) (.o 39740 [v9,A7] (A7))
 (.o 39995 [A7,A7] (v75)))
 (.m 42389 [.agg [j 512,.aa],v75] (v35) (.o 42133 [A7,v75] (v76))
 (.o 45875 [v35,v9] (v35))))]
def k9:List (Nat×an):=[(100,af9)]
def ac3:an:=[.m 38462 [v11,v25] (v27) (.m 38458 [v10,v8] (v10) (.m 38195 [v10,v9] (v10) (.o 37936 [v11,v10] (v10))
 (.l))
 (.o 38461 [v21,v25] (pX)))
 (.m 42035 [v76,v9] (v76) (.o 38721 [v22,v21] (v11))
 (.o 42296 [.agg [j (-8388608),.aa],v8] (.agg [j (-16777216),.aa]))),
 .m 38721 [v10,v21] (v10) (.o 38461 [v21,v8] (v27))
 (.l)]
def ac4:an:=[.m 38201 [v38,v9] (pZ) (.m 38197 [v25,v9] (ff) (.o 38196 [v9,v9] (bV))
 (.o 38198 [v21,v9] (v80)))
 (.m 38205 [pX,v9] (ph) (.o 38203 [ck,v9] (v82))
 (.l))]
def k10:List (Nat×an):=[(100,ac3),(101,ac4)]
def ac5:an:=[.m 38200 [v28,v9] (v83) (.m 38197 [v8,v9] (v84) (.m 38195 [v22,v9] (v85) (.o 7044 [v40,v9] (YE))
 (.l))
 (.o 38199 [bE,v9] (v87)))
 (.m 38206 [v72,v9] (Fy) (.o 38201 [v27,v9] (pk))
 (.o 38223 [v73,v9] (YF))),
 .m 38199 [v11,v9] (v91) (.o 38195 [v10,v9] (bD))
 (.l)]
def ac6:an:=[.m 16302 [v93] (YG) (.m 5359 [ff] (v84) (.o 5357 [bD] (bD))
 (.l))
 (.m 30898 [CR] (v96) (.o 30896 [Fz] (zB))
 (.l)),
 .o 5357 [v85] (bV)]
def k11:List (Nat×an):=[(101,ac5),(102,ac6)]
def ac7:an:=[.m 5361 [v91] (v80) (.m 5359 [v84] (ff) (.o 5358 [bV] (v85))
 (.o 5360 [v80] (v91)))
 (.m 9005 [jF] (eW) (.o 7277 [SA] (aii))
 (.o 51597 [SB] (aij)))]
def ac8:an:=[.m 9006 [eW] (.bool false) (.m 5365 [v82] (.bool false) (.m 5361 [v91] (.bool false) (.o 5357 [bD] (.bool false))
 (.l))
 (.o 5367 [ph] (.bool false)))
 (.m 30894 [v105] (.bool false) (.o 9013 [Ez] (.bool false))
 (.o 57349 [v107] (.bool false))),
 .o 5361 [v87] (.bool false)]
def k12:List (Nat×an):=[(102,ac7),(107,ac8)]
def ac9:an:=[.m 12653 [Cu] (.bool false) (.m 5360 [v80] (.bool false) (.m 5359 [ff] (.bool false) (.o 5358 [bV] (.bool false))
 (.l))
 (.m 10861 [v109] (.bool false) (.o 5362 [v83] (.bool false))
 (.l)))
 (.m 47466 [M9] (.bool false) (.m 46761 [Na] (.bool false) (.o 12655 [nn] (.bool false))
 (.l))
 (.m 62288 [Nb] (.bool false) (.o 62113 [Nc] (.bool false))
 (.l))),
 .o 5359 [v84] (.bool false)]
def ada:an:=[.m 5359 [v84] (j 1) (.m 5358 [bV] (j 1) (.o 5357 [v85] (j (-1)))
 (.l))
 (.o 5361 [v87] (j 1))]
def k13:List (Nat×an):=[(107,ac9),(108,ada)]
def adb:an:=[.m 9005 [jF] (j (-1)) (.m 5360 [v80] (j 1) (.m 5359 [ff] (j (-1)) (.o 5357 [bD] (j 0))
 (.l))
 (.o 5361 [v91] (j (-1))))
 (.m 9198 [EA] (j 1) (.o 9009 [AA] (j (-1)))
 (.o 12654 [v117] (j 1)))]
def ade:an:=[.m 28695 [v21] (v80) (.m 28693 [v9] (bV) (.o 28692 [v22] (v85))
 (.o 28694 [v8] (v84)))
 (.m 28700 [ck] (v82) (.o 28696 [v11] (v91))
 (.l)),
 .m 28696 [bE] (v87) (.o 28692 [v10] (bD))
 (.l)]
def k14:List (Nat×an):=[(108,adb),(111,ade)]
def adf:an:=[.m 28703 [v72] (Fy) (.m 28694 [v25] (ff) (.m 9412 [v24] (SD) (.o 9411 [Cv] (SB))
 (.l))
 (.m 28698 [v38] (pZ) (.o 28697 [v28] (v83))
 (.l)))
 (.m 36599 [sY] (.agg [j 1,Yx,j 1,.aa]) (.m 32533 [mQ] (EA) (.o 30612 [SE] (SA))
 (.l))
 (.o 45877 [OJ] (aik))),
 .o 28698 [v27] (pk)]
def adg:an:=[.m 38721 [v10,v21] (v21) (.m 38458 [v10,v8] (v8) (.o 38195 [v10,v9] (v9))
 (.l))
 (.m 39247 [v10,v28] (v28) (.o 38984 [v10,bE] (bE))
 (.l))]
def k15:List (Nat×an):=[(111,adf),(119,adg)]
def adh:an:=[.m 38197 [v8,v9] (v21) (.m 35436 [v10,Yy] (Yy) (.m 19324 [aiG,.agg [j 846264338327950288,.aa]] (aiH) (.m 18102 [oG,oG] (SF) (.o 17316 [v124,.agg [j 1411,.aa]] (SF))
 (.l))
 (.o 34584 [v44,.agg [j 976,.aa]] (.agg [j 3024,.aa])))
 (.m 37934 [v8,v10] (v8) (.o 37933 [v9,v10] (v9))
 (.o 38196 [v9,v9] (v8))))
 (.m 39609 [oG,v9] (EB) (.m 38684 [aiI,.agg [j 419716939937510,.aa]] (TS) (.o 38459 [v9,v8] (v21))
 (.o 39510 [v10,v27] (v27)))
 (.m 58641 [bC,.agg [j (-1),v51]] (aiJ) (.o 40036 [v10,ck] (ck))
 (.o 59525 [SG,.agg [j 1322,.aa]] (.agg [j 2834,.aa]))))]
def CS:List (Nat×an):=[(119,adh)]
def adi:an:=[.m 22725 [aiK,v59] (aiL) (.m 12706 [aiM,NC] (aiN) (.m 10257 [aiO,.agg [j (-1),OL]] (aiP) (.m 6588 [aiQ,.agg [j (-1),v53]] (aiR) (.o 3745 [aiS,.agg [j (-1),OM]] (aiT))
 (.l))
 (.o 12138 [aiU,.agg [j (-1),ON]] (aiV)))
 (.m 18235 [aiR,NB] (aiW) (.o 17430 [aiV,NA] (aiO))
 (.o 22433 [aiX,.agg [j (-91810290),.aa]] (aiY))))
 (.m 53337 [aiJ,Ny] (aiU) (.m 31748 [aiW,.agg [j (-1),OP]] (aiM) (.o 29295 [aiL,.agg [j (-268556931493155),.aa]] (aiZ))
 (.o 43670 [aiT,Nx] (aiQ)))
 (.m 60309 [aiN,.agg [j (-1),w [3045029095724553698,25]]] (aiK) (.o 57735 [aiP,Nz] (aiS))
 (.o 63469 [aiZ,OO] (aiX))))]
def k17:List (Nat×an):=[(119,adi)]
def adj:an:=[.m 39609 [v127,v9] (v36) (.m 38930 [ND,OJ] (EN) (.m 38461 [v21,v8] (v28) (.m 37932 [v10,v10] (v10) (.o 37110 [ND,.agg [j (-1000000),.aa]] (EO))
 (.l))
 (.o 38902 [iF,v9] (sU)))
 (.m 39510 [v22,v27] (v28) (.o 39344 [v36,v22] (v127))
 (.o 39514 [bE,v38] (v10))))
 (.m 40570 [ck,pX] (v8) (.m 40044 [ck,v7] (v21) (.o 40040 [v11,ck] (v28))
 (.o 40224 [ai0,v10] (ND)))
 (.m 45221 [aiY,OQ] (ai1) (.o 41620 [v38,.agg [j (-8),.aa]] (I4))
 (.o 54689 [ai1,.agg [j (-19),.aa]] (ai0))))]
def k18:List (Nat×an):=[(119,adj)]
def adk:an:=[.m 38985 [v9,bE] (v28) (.m 37937 [v28,v10] (v28) (.m 37932 [v22,v10] (v22) (.m 29936 [mQ,.agg [j (-16777216),.aa]] (v9) (.o 21412 [v35,.agg [j (-33554430),.aa]] (v8))
 (.l))
 (.o 37935 [v21,v10] (v21)))
 (.m 38725 [v11,v21] (v10) (.o 38460 [v8,v25] (v10))
 (.o 38984 [v10,v11] (v11))))
 (.m 40568 [v27,pX] (v10) (.m 39515 [v28,v38] (v9) (.o 38987 [v21,v11] (v10))
 (.o 40566 [bE,pX] (v25)))
 (.m 45307 [v72,v73] (v38) (.o 40825 [v10,v72] (v72))
 (.o 65300 [v10,mQ] (mQ))))]
def k19:List (Nat×an):=[(119,adk)]
def adl:an:=[.m 37934 [v25,v10] (v25) (.o 37932 [v10,v22] (v22))
 (.o 38460 [v25,v8] (v10))]
def adm:an:=[.m 26590 [.bool false,j 4] (j 0) (.m 26064 [.bool false,j 2] (j 0) (.o 25801 [.bool false,j 1] (j 0))
 (.o 26327 [.bool false,j 3] (j 0)))
 (.m 28431 [.bool false,j 11] (j 0) (.o 26853 [.bool false,j 5] (j 0))
 (.o 28694 [.bool false,j 12] (j 0)))]
def adn:an:=[.m 34670 [.ai true 3 [j 0,j 0,j 0]] (j 0) (.o 27379 [.ai true 2 [j 0,j 0]] (j 0))
 (.o 51832 [.ai true 4 [j 0,j 0,j 0,j 0]] (j 0))]
def ado:an:=[.m 2148 [v1] (.bool true) (.o 2147 [v0] (.bool true))
 (.o 2151 [fm] (.bool true))]
def k20:List (Nat×an):=[(119,adl),(124,adm),(125,adn),(129,ado)]
def adp:an:=[.m 2152 [.str [54]] (.bool true) (.m 2149 [v6] (.bool true) (.o 2146 [v2] (.bool true))
 (.o 2150 [v5] (.bool true)))
 (.m 15011 [v130] (.bool true) (.o 2154 [nL] (.bool true))
 (.o 15572 [v131] (.bool true)))]
def adq:an:=[.m 38466 [v7,v8] (.ae [v11,v9]) (.m 38199 [bE,v9] (.ae [bE,v10]) (.m 38197 [v8,v9] (Jc) (.o 38196 [v9,v9] (EP))
 (.l))
 (.o 38463 [v28,v8] (.ae [v8,v9])))
 (.m 38985 [v9,bE] (EQ) (.m 38749 [v73,v21] (.ae [v7,v10]) (.o 38727 [v27,v21] (Jc))
 (.l))
 (.o 39525 [EC,v27] (.ae [v8,v21])))]
def k21:List (Nat×an):=[(129,adp),(164,adq)]
def adr:an:=[.m 38466 [ck,v8] (.ae [bE,v10]) (.m 38459 [v9,v8] (EQ) (.m 21237 [v40,v44] (.ae [.agg [j 976,.aa],.agg [j 1152,.aa]]) (.m 11311 [v40,SG] (.ae [.agg [j 1322,.aa],.agg [j 1136,.aa]]) (.o 7044 [v40,v9] (.ae [v40,v10]))
 (.l))
 (.o 38203 [ck,v9] (.ae [ck,v10])))
 (.m 38461 [v21,v8] (.ae [v9,v9]) (.o 38460 [v8,v8] (EP))
 (.o 38462 [bE,v8] (Jc))))
 (.m 41286 [SF,v8] (.ae [oG,v10]) (.m 40037 [v9,ck] (EQ) (.o 38986 [v8,bE] (Jd))
 (.o 40038 [v8,ck] (Jd)))
 (.m 41482 [.agg [j 3024,.aa],v8] (.ae [SG,v10]) (.o 41292 [.agg [j 2834,.aa],v8] (.ae [v124,v10]))
 (.o 51847 [v40,v124] (.ae [.agg [j 1411,.aa],.agg [j 613,.aa]]))))]
def k22:List (Nat×an):=[(164,adr)]
def ads:an:=[.m 40262 [oG,v31] (.ae [v9,SH]) (.m 38464 [v27,v8] (NE) (.m 17536 [SI,SJ] (.ae [v8,SK]) (.m 17035 [v31,SI] (.ae [v8,SJ]) (.o 16772 [v31,SH] (.ae [v8,SL]))
 (.l))
 (.o 18061 [SH,SL] (.ae [v8,v138])))
 (.m 39542 [v69,v27] (.ae [v28,v8]) (.o 39458 [v31,v8] (.ae [Yu,v10]))
 (.o 39872 [oG,v8] (.ae [iF,v10]))))
 (.m 46418 [v138,v69] (.ae [v8,v27]) (.m 41897 [v139,EC] (.ae [v9,v28]) (.o 40263 [EB,v31] (.ae [v9,SI]))
 (.o 43267 [SK,v139] (.ae [v21,EC])))
 (.m 56514 [SL,v138] (.ae [v8,v69]) (.o 51058 [v40,oG] (.ae [oG,.agg [j 604,.aa]]))
 (.o 57827 [SJ,SK] (.ae [v8,v139]))))]
def k23:List (Nat×an):=[(164,ads)]
def adt:an:=[.m 39511 [v9,v27] (EQ) (.m 37218 [NF,v68] (.ae [Ny,v27]) (.m 16985 [TV,bC] (.ae [Ug,.agg [j 1,.ai false 3 [u 1235828631747698810,u 1079552342813895860,u 113493716422]]]) (.m 15847 [Uh,bC] (.ae [NF,.agg [j 1,.ai false 3 [u 7173920219356902912,u 14913013201911312773,u 249251386827]]]) (.o 2872 [.agg [j 1,Nf],v8] (.ae [de,v9]))
 (.l))
 (.o 26707 [Uj,bC] (.ae [Uk,.agg [j 1,.ai false 3 [u 1746377658667505148,u 1599727212568632173,u 227174926597]]])))
 (.m 38992 [ck,bE] (Jc) (.o 38201 [v27,v9] (.ae [v27,v10]))
 (.o 39262 [EC,v28] (NE))))
 (.m 45348 [NG,v8] (.ae [.agg [j 1,v51],v9]) (.m 40662 [EB,v28] (.ae [Yv,v10]) (.o 40247 [v31,v28] (.ae [v20,v10]))
 (.o 44631 [TQ,bC] (.ae [NG,.agg [j 1,.ai false 3 [u 421539611954999217,u 13196361294450075735,u 272546525667]]])))
 (.m 47943 [sY,ck] (.ae [de,bE]) (.o 46891 [sY,bE] (.ae [.agg [j 1,Nf],v10]))
 (.o 51269 [TU,bC] (.ae [TP,v10]))))]
def k24:List (Nat×an):=[(164,adt)]
def adu:an:=[.m 39824 [Us,bC] (.ae [NH,.agg [j 1,.ai false 3 [u 3957293859378521763,u 1070264078444544701,u 39820490084]]]) (.m 23221 [Ul,bC] (.ae [NI,.agg [j 1,.ai false 3 [u 5049880919036410662,u 15456940594375998285,u 108881395591]]]) (.m 12502 [NI,v141] (.ae [.agg [j 1,ON],.agg [j 18,.aa]]) (.m 6417 [Uf,bC] (.ae [TW,.agg [j 1,.ai false 3 [u 2236115821013113877,u 5139296421525228835,u 214964783928]]]) (.o 1506 [Ui,bC] (.ae [TY,.agg [j 1,.ai false 3 [u 1282353773684968516,u 3289625660447247870,u 196580211114]]]))
 (.l))
 (.o 21468 [NJ,.agg [j 182,.aa]] (.ae [.agg [j 1,OM],.agg [j 123,.aa]])))
 (.m 35418 [NK,.agg [j 56,.aa]] (.ae [NA,bE]) (.o 25241 [Ut,bC] (.ae [Ur,.agg [j 1,.ai false 3 [u 4818490623631867340,u 16394987128794677289,u 272389265430]]]))
 (.o 39132 [NH,.agg [j 90,.aa]] (.ae [.agg [j 1,OL],v72]))))
 (.m 49018 [Uo,bC] (.ae [NJ,.agg [j 1,.ai false 3 [u 2523625169501610171,u 17067363556509273432,u 75021796449]]]) (.m 44138 [Ub,bC] (.ae [Uc,.agg [j 1,.ai false 3 [u 15320273221443061843,u 12503505949779772,u 151336667214]]]) (.o 40594 [TX,bC] (.ae [NL,.agg [j 1,.ai false 3 [u 6473246494091955159,u 4262437969390320619,u 292627674578]]]))
 (.o 45093 [Um,bC] (.ae [Un,.agg [j 1,.ai false 3 [u 14523843154860188619,u 14361084977088776627,u 276609180204]]])))
 (.m 54294 [Ud,bC] (.ae [NM,.agg [j 1,.ai false 3 [u 15840774403327411665,u 11942699833789439100,u 140357623712]]]) (.o 51549 [NM,.agg [j 132,.aa]] (.ae [Nz,.agg [j 50,.aa]]))
 (.o 58347 [TZ,bC] (.ae [NK,.agg [j 1,.ai false 3 [u 17863603311630982995,u 11726035622108506063,u 25133904187]]]))))]
def k25:List (Nat×an):=[(164,adu)]
def adv:an:=[.m 27885 [UL,bC] (.ae [NN,.agg [j 1,.ai false 3 [u 8746584666257613248,u 12575681850306854528,u 44808278737]]]) (.m 8933 [Uq,bC] (.ae [NO,.agg [j 1,.ai false 3 [u 18170290448945823725,u 4863456854025250333,u 177576882805]]]) (.m 6609 [UF,bC] (.ae [UK,.agg [j 1,.ai false 3 [u 1230989211628645002,u 1159565562802114719,u 17798937139]]]) (.m 5976 [UE,bC] (.ae [NP,.agg [j 1,.ai false 3 [u 15181002372271313457,u 15855354825785105609,u 127223305244]]]) (.o 5494 [NQ,.agg [j 462,.aa]] (.ae [.agg [j 1,OP],.agg [j 109,.aa]]))
 (.l))
 (.o 8107 [NR,.agg [j 650,.aa]] (.ae [UM,.agg [j 138,.aa]])))
 (.m 16322 [UO,bC] (.ae [UG,.agg [j 1,.ai false 3 [u 6359753310305933972,u 12002794089071725076,u 130763764821]]]) (.o 10208 [Ue,bC] (.ae [Up,.agg [j 1,.ai false 3 [u 2390991103675935201,u 2398540852768645950,u 183800717753]]]))
 (.o 17484 [NO,.agg [j 306,.aa]] (.ae [.agg [j 1,v53],.agg [j 109,.aa]]))))
 (.m 50063 [Ua,bC] (.ae [UD,.agg [j 1,.ai false 3 [u 1363536335835424732,u 1604162463768968710,u 264198958956]]]) (.m 35274 [UH,bC] (.ae [NR,.agg [j 1,.ai false 3 [u 8799859423424730889,u 18345504288447267381,u 151275892387]]]) (.o 31596 [NN,.agg [j 552,.aa]] (.ae [NC,.agg [j 265,.aa]]))
 (.o 46549 [UB,bC] (.ae [NQ,.agg [j 1,.ai false 3 [u 6844174947456487896,u 7934601446456017395,u 26722947584]]])))
 (.m 58276 [NP,.agg [j 380,.aa]] (.ae [NB,.agg [j 160,.aa]]) (.o 52971 [UI,bC] (.ae [UA,.agg [j 1,.ai false 3 [u 8692097415552468201,u 12762717506135777163,u 59332127679]]]))
 (.o 58578 [NL,.agg [j 240,.aa]] (.ae [Nx,.agg [j 213,.aa]]))))]
def k26:List (Nat×an):=[(164,adv)]
def adw:an:=[.m 30325 [UN,bC] (.ae [Uu,.agg [j 1,.ai false 3 [u 1579144640813099602,u 7733978210614872140,u 131240361634]]]) (.m 18179 [Ng,.agg [j 1122,.aa]] (.ae [YB,.agg [j 771,.aa]]) (.m 9739 [Uy,bC] (.ae [YC,.agg [j 1,.ai false 3 [u 7290936844905413076,u 11398232400322276176,u 7413401391]]]) (.m 9243 [UP,bC] (.ae [v143,.agg [j 1,.ai false 3 [u 13587521312188827580,u 11758254733816970059,u 65734798861]]]) (.o 1584 [Nh,.agg [j 992,.aa]] (.ae [OO,.agg [j 817,.aa]]))
 (.l))
 (.o 13230 [Uv,bC] (.ae [NS,.agg [j 1,.ai false 3 [u 349461191194858758,u 622604278883827451,u 36576459784]]])))
 (.m 26135 [UC,bC] (.ae [YA,.agg [j 1,.ai false 3 [u 16048122460062088079,u 6651628531624551829,u 221869364373]]]) (.o 18972 [UR,bC] (.ae [v145,.agg [j 1,.ai false 3 [u 7609138115395105961,u 16981135940981975920,u 154323963535]]]))
 (.o 29390 [US,bC] (.ae [v65,.agg [j 1,.ai false 3 [u 8468261177957575298,u 8940698426691163316,u 148656560223]]]))))
 (.m 46446 [NS,.agg [j 756,.aa]] (.ae [v59,v37]) (.m 32606 [UJ,bC] (.ae [Yz,.agg [j 1,.ai false 3 [u 5065919791669400907,u 16506561736487297484,u 83028630264]]]) (.o 30929 [Uw,bC] (.ae [Nh,.agg [j 1,.ai false 3 [u 10858523675194609978,u 3257907593705100571,u 81099056982]]]))
 (.o 43783 [Ux,bC] (.ae [Ng,.agg [j 1,.ai false 3 [u 15490361791363993244,u 6078422657748804733,u 12337586889]]])))
 (.m 61455 [v143,.agg [j 870,.aa]] (.ae [v63,.agg [j 217,.aa]]) (.o 57597 [Uz,bC] (.ae [YD,.agg [j 1,.ai false 3 [u 6367995094100048354,u 17496855401415799788,u 43195630703]]]))
 (.o 64765 [v145,.agg [j 1260,.aa]] (.ae [OQ,.agg [j 1242,.aa]]))))]
def k27:List (Nat×an):=[(164,adw)]
def adx:an:=[.m 32691 [UW,UX] (.ae [v8,UY]) (.m 19705 [UZ,U1] (.ae [v8,U2]) (.m 15280 [UU,bC] (.ae [v70,.agg [j 1,.ai false 3 [u 18072714473608393915,u 9602986640170551272,u 271117517166]]]) (.m 7995 [U3,U4] (.ae [v28,U5]) (.o 5343 [U2,U6] (.ae [v8,U3]))
 (.l))
 (.o 18392 [UT,bC] (.ae [v37,.agg [j 1,.ai false 3 [u 8706354635702509598,u 17203401714586090397,u 292572987713]]])))
 (.m 25369 [U6,U3] (.ae [v9,U4]) (.o 20207 [U4,U5] (.ae [v9,U7]))
 (.o 27890 [U7,UW] (.ae [v8,UX]))))
 (.m 46786 [UQ,bC] (.ae [v146,.agg [j 1,.ai false 3 [u 6276526027401755076,u 4281137798239609278,u 163149191346]]]) (.m 42928 [U1,U2] (.ae [v9,U6]) (.o 42308 [v146,.agg [j 1406,.aa]] (.ae [Fx,.agg [j 1010,.aa]]))
 (.o 43711 [U5,U7] (.ae [v9,UW])))
 (.m 55096 [v37,.agg [j 1560,.aa]] (.ae [v10,v37]) (.o 52492 [nt,UZ] (.ae [SM,U1]))
 (.o 64035 [EO,nt] (.ae [iF,UZ]))))]
def k28:List (Nat×an):=[(164,adx)]
def ady:an:=[.m 40200 [U8,U9] (.ae [v21,Va]) (.m 7360 [Vb,Vc] (.ae [v8,Vd]) (.m 4417 [Ve,Vf] (.ae [v8,Vg]) (.m 3666 [Vh,Vi] (.ae [v8,Ve]) (.o 3318 [Va,Vj] (.ae [v9,Vk]))
 (.l))
 (.o 6857 [Vk,Vl] (.ae [v148,Vm])))
 (.m 32256 [Vf,Vg] (.ae [v9,U8]) (.o 30442 [Vl,Vm] (.ae [v9,Vb]))
 (.o 38006 [Vc,Vd] (.ae [v9,Vn]))))
 (.m 58625 [Vg,U8] (.ae [v9,U9]) (.m 52281 [Vj,Vk] (.ae [v8,Vl]) (.o 42059 [U9,Va] (.ae [v8,Vj]))
 (.o 53079 [UY,Vh] (.ae [ck,Vi])))
 (.m 62130 [Vm,Vb] (.ae [v21,Vc]) (.o 60543 [UX,UY] (.ae [v21,Vh]))
 (.o 62949 [Vi,Ve] (.ae [.agg [j 28,.aa],Vf]))))]
def k29:List (Nat×an):=[(164,ady)]
def adz:an:=[.m 42089 [Vo,Vp] (.ae [v9,Vq]) (.m 32816 [Vr,Vs] (.ae [v21,Vt]) (.m 14349 [Vu,Vv] (.ae [v9,Vr]) (.m 8250 [Vw,Vx] (.ae [v9,Vy]) (.o 427 [Vz,VA] (.ae [v8,Vo]))
 (.l))
 (.o 30531 [Vd,Vn] (.ae [v8,Vw])))
 (.m 35160 [VA,Vo] (.ae [bE,Vp]) (.o 34538 [Vx,Vy] (.ae [ck,Vu]))
 (.o 38102 [VB,Vz] (.ae [v9,VA]))))
 (.m 58975 [Vs,Vt] (.ae [v21,VD]) (.m 56034 [Vp,Vq] (.ae [v9,VF]) (.o 51753 [Vt,VD] (.ae [bE,VB]))
 (.o 57997 [Vv,Vr] (.ae [v27,Vs])))
 (.m 62478 [Vy,Vu] (.ae [bE,Vv]) (.o 60603 [VD,VB] (.ae [v9,Vz]))
 (.o 64554 [Vn,Vw] (.ae [v9,Vx]))))]
def k30:List (Nat×an):=[(164,adz)]
def adA:an:=[.m 39774 [Vq,VF] (.ae [v9,VG]) (.m 12557 [VH,VI] (.ae [v28,VJ]) (.m 9680 [VK,VL] (.ae [v141,VM]) (.m 6224 [VN,VK] (.ae [Ni,VL]) (.o 2037 [VO,VN] (.ae [v9,VK]))
 (.l))
 (.o 10228 [VL,VM] (.ae [v9,VH])))
 (.m 22616 [VI,VJ] (.ae [v9,VP]) (.o 20970 [VQ,VR] (.ae [Ni,VS]))
 (.o 30027 [VT,VO] (.ae [v9,VN]))))
 (.m 51390 [VM,VH] (.ae [v9,VI]) (.m 43866 [VG,VT] (.ae [v9,VO]) (.o 41638 [VS,VU] (.ae [v9,VV]))
 (.o 51301 [VP,VQ] (.ae [v9,VR])))
 (.m 60015 [VF,VG] (.ae [v21,VT]) (.o 53305 [VR,VS] (.ae [v9,VU]))
 (.o 64052 [VJ,VP] (.ae [bE,VQ]))))]
def k31:List (Nat×an):=[(164,adA)]
def adB:an:=[.m 44712 [SN,SO] (.ae [v9,v152]) (.m 40942 [v152,SP] (.ae [.agg [j 34,.aa],v154]) (.m 30382 [SQ,SR] (.ae [v21,v157]) (.m 14716 [SS,v159] (.ae [v28,SN]) (.o 9615 [v157,SS] (.ae [v9,v159]))
 (.l))
 (.o 35632 [VW,VX] (.ae [v9,SQ])))
 (.m 41702 [SO,v152] (.ae [v9,SP]) (.o 41184 [v159,SN] (.ae [v21,SO]))
 (.o 44031 [v160,SU] (.ae [v8,v162]))))
 (.m 57848 [v154,v160] (.ae [v8,SU]) (.m 48081 [SP,v154] (.ae [v21,v160]) (.o 45650 [SU,v162] (.ae [v8,SV]))
 (.o 51920 [SR,v157] (.ae [v9,SS])))
 (.m 65078 [VU,VV] (.ae [v68,VW]) (.o 63534 [VX,SQ] (.ae [v21,SR]))
 (.o 65371 [VV,VW] (.ae [.agg [j 53,.aa],VX]))))]
def k32:List (Nat×an):=[(164,adB)]
def adC:an:=[.m 27146 [v164,SW] (.ae [v9,SX]) (.m 21221 [SV,v167] (.ae [v9,v168]) (.m 14870 [SY,SZ] (.ae [v8,v171]) (.m 8469 [SZ,v171] (.ae [v9,S3]) (.o 784 [v168,v173] (.ae [Ni,S4]))
 (.l))
 (.o 17574 [v167,v168] (.ae [v27,v173])))
 (.m 23404 [S3,v175] (.ae [v9,S5]) (.o 22997 [v171,S3] (.ae [v9,v175]))
 (.o 23811 [S5,S6] (.ae [EC,S7]))))
 (.m 39672 [S4,S8] (.ae [v9,v164]) (.m 28595 [v162,SV] (.ae [v21,v167]) (.o 27866 [SX,SY] (.ae [v8,SZ]))
 (.o 37525 [v175,S5] (.ae [v9,S6])))
 (.m 57909 [v173,S4] (.ae [v9,S8]) (.o 56169 [S8,v164] (.ae [v21,SW]))
 (.o 61745 [SW,SX] (.ae [ck,SY]))))]
def k33:List (Nat×an):=[(164,adC)]
def adD:an:=[.m 42172 [v69,eY] (Jc) (.m 12532 [S9,Ta] (.ae [v9,v182]) (.m 6351 [nt,eY] (.ae [NT,v10]) (.m 6283 [Tb,Tc] (.ae [v9,Td]) (.o 2340 [S6,S7] (.ae [v9,Tf]))
 (.l))
 (.o 8026 [Tg,Th] (.ae [eY,S9])))
 (.m 27451 [v182,Tb] (.ae [v9,Tc]) (.o 15608 [Tf,Ti] (.ae [v9,Tg]))
 (.o 37267 [Th,S9] (.ae [v9,Ta]))))
 (.m 50496 [S7,Tf] (.ae [bE,Ti]) (.m 45726 [EO,eY] (.ae [.agg [j 1,I5],v10]) (.o 45514 [Ti,Tg] (.ae [v9,Th]))
 (.o 46396 [ED,v69] (.ae [v9,eY])))
 (.m 59100 [Tc,Td] (.ae [v9,ED]) (.o 50636 [Td,ED] (.ae [v9,v69]))
 (.o 62667 [Ta,v182] (.ae [v28,Tb]))))]
def k34:List (Nat×an):=[(164,adD)]
def adE:an:=[.m 29580 [VY,VZ] (.ae [v21,V1]) (.m 24387 [V2,V3] (.ae [v9,V4]) (.m 22936 [V5,V2] (.ae [v9,V3]) (.m 13113 [V6,V7] (.ae [v8,V8]) (.o 9320 [V8,V5] (.ae [v28,V2]))
 (.l))
 (.o 23517 [VZ,V1] (.ae [ck,V9])))
 (.m 27037 [.agg [j 1,I5],NT] (.ae [iF,.agg [j 1,.ai false 3 [u 14324738801190271189,u 11979060741096308869,u 1961260]]]) (.o 24871 [V7,V8] (.ae [v9,V5]))
 (.o 27058 [nt,Wa] (.ae [SM,Wb]))))
 (.m 49943 [V3,V4] (.ae [v8,VY]) (.m 41621 [Wb,V6] (.ae [v9,V7]) (.o 35557 [V1,V9] (.ae [v8,Wc]))
 (.o 49460 [Wa,Wb] (.ae [v8,V6])))
 (.m 59199 [V4,VY] (.ae [v8,VZ]) (.o 54789 [V9,Wc] (.ae [.agg [j 28,.aa],We]))
 (.o 61447 [EN,nt] (.ae [iF,Wa]))))]
def k35:List (Nat×an):=[(164,adE)]
def adF:an:=[.m 25367 [We,Wf] (.ae [v9,Wg]) (.m 11202 [Wh,Wi] (.ae [v21,Wj]) (.m 8007 [Wk,Wh] (.ae [v9,Wi]) (.m 7261 [Wi,Wj] (.ae [v8,Wl]) (.o 5406 [Wl,Wm] (.ae [v8,Wn]))
 (.l))
 (.o 9521 [Wo,Wp] (.ae [v9,Wq])))
 (.m 13303 [Wg,Wr] (.ae [v21,Wo]) (.o 13112 [Wf,Wg] (.ae [v9,Wr]))
 (.o 22598 [Wj,Wl] (.ae [v9,Wm]))))
 (.m 37659 [Wn,Ws] (.ae [v9,Wt]) (.m 30810 [Wr,Wo] (.ae [v8,Wp]) (.o 26028 [Wc,We] (.ae [v8,Wf]))
 (.o 37362 [Wq,Wk] (.ae [v148,Wh])))
 (.m 54823 [Ws,Wt] (.ae [ck,Wu]) (.o 38763 [Wm,Wn] (.ae [v9,Ws]))
 (.o 58997 [Wp,Wq] (.ae [v8,Wk]))))]
def k36:List (Nat×an):=[(164,adF)]
def adG:an:=[.m 48740 [Wu,Wv] (.ae [v9,Ww]) (.m 29196 [Wx,Wy] (.ae [v9,Wz]) (.m 26166 [Ww,WA] (.ae [v21,WB]) (.m 15445 [WC,WD] (.ae [v9,WE]) (.o 2110 [WG,WH] (.ae [v9,WI]))
 (.l))
 (.o 28034 [Wv,Ww] (.ae [v27,WA])))
 (.m 36435 [WE,Wx] (.ae [v21,Wy]) (.o 32421 [WD,WE] (.ae [v9,Wx]))
 (.o 39631 [WB,WG] (.ae [bE,WH]))))
 (.m 61107 [WA,WB] (.ae [v21,WG]) (.m 59592 [Wt,Wu] (.ae [bE,Wv]) (.o 58482 [WH,WI] (.ae [v9,WJ]))
 (.o 59976 [WK,WC] (.ae [v9,WD])))
 (.m 62868 [WI,WJ] (.ae [v8,WK]) (.o 61547 [WJ,WK] (.ae [bE,WC]))
 (.o 64369 [Wy,Wz] (.ae [v9,WL]))))]
def k37:List (Nat×an):=[(164,adG)]
def adH:an:=[.m 33713 [WL,WM] (.ae [SM,WO]) (.m 9872 [WQ,WR] (.ae [v9,WS]) (.m 6503 [WT,WU] (.ae [v8,WV]) (.m 3965 [WR,WS] (.ae [v21,v193]) (.o 774 [WS,v193] (.ae [v9,v194]))
 (.l))
 (.o 8582 [Wz,WL] (.ae [v9,WM])))
 (.m 30773 [WM,WO] (.ae [bE,WW]) (.o 29779 [v194,Tj] (.ae [v28,v196]))
 (.o 32469 [Tj,v196] (.ae [v8,Tk]))))
 (.m 50117 [WO,WW] (.ae [v9,WX]) (.m 48414 [WV,WQ] (.ae [v8,WR]) (.o 35703 [WW,WX] (.ae [.agg [j 203,.aa],WY]))
 (.o 48797 [v193,v194] (.ae [v9,Tj])))
 (.m 54669 [WX,WY] (.ae [.agg [j 220,.aa],WT]) (.o 54303 [WY,WT] (.ae [v8,WU]))
 (.o 63286 [WU,WV] (.ae [v9,WQ]))))]
def k38:List (Nat×an):=[(164,adH)]
def adI:an:=[.m 46829 [v198,Tl] (.ae [v8,Tm]) (.m 31047 [v201,Tn] (.ae [v8,v203]) (.m 17845 [Tl,Tm] (.ae [v9,To]) (.m 17713 [Tp,v206] (.ae [v9,Tq]) (.o 6148 [To,v208] (.ae [v37,Tt]))
 (.l))
 (.o 21982 [Tn,v203] (.ae [v9,v210])))
 (.m 38339 [Tu,Tp] (.ae [v9,v206]) (.o 35400 [v203,v210] (.ae [.agg [j 47,.aa],v212]))
 (.o 38829 [v196,Tk] (.ae [v9,Tu]))))
 (.m 54432 [Tk,Tu] (.ae [v21,Tp]) (.m 49096 [v208,Tt] (.ae [v9,v201]) (.o 48535 [Tv,v198] (.ae [v9,Tl]))
 (.o 53394 [Tt,v201] (.ae [bE,Tn])))
 (.m 58861 [Tm,To] (.ae [v37,v208]) (.o 58558 [v206,Tq] (.ae [v9,Tv]))
 (.o 62608 [Tq,Tv] (.ae [.agg [j 27,.aa],v198]))))]
def k39:List (Nat×an):=[(164,adI)]
def adJ:an:=[.m 43138 [EN,eY] (.ae [.agg [j 1,I6],v10]) (.m 26523 [Tw,Tz] (.ae [v21,TA]) (.m 10495 [.agg [j 1,I6],NT] (.ae [iF,.agg [j 1,.ai false 3 [u 14324738801190396189,u 11979060741096308869,u 1961260]]]) (.m 8735 [v218,TB] (.ae [v37,TC]) (.o 3571 [TD,v218] (.ae [v8,TB]))
 (.l))
 (.o 16928 [Tz,TA] (.ae [bE,v222])))
 (.m 39555 [iF,v31] (.ae [v10,iF]) (.o 27726 [TE,TD] (.ae [Ni,v218]))
 (.o 42188 [ED,eY] (NE))))
 (.m 55324 [v222,TF] (.ae [ck,ED]) (.m 48222 [TC,Tw] (.ae [v21,Tz]) (.o 47727 [v210,v212] (.ae [bE,TE]))
 (.o 50620 [TF,ED] (.ae [v9,eY])))
 (.m 61309 [v212,TE] (.ae [v139,TD]) (.o 57034 [TA,v222] (.ae [v28,TF]))
 (.o 61973 [TB,TC] (.ae [v9,Tw]))))]
def k40:List (Nat×an):=[(164,adJ)]
def adK:an:=[.m 40072 [TG,ck] (.ae [bE,bE]) (.m 38902 [iF,v9] (.ae [iF,v10]) (.m 28310 [v31,iF] (.ae [v9,v226]) (.m 5315 [v227,v228] (.ae [v8,v229]) (.o 4527 [v226,TH] (.ae [v8,TI]))
 (.l))
 (.o 28573 [v31,sU] (.ae [v9,v227])))
 (.m 39523 [v148,v27] (.ae [v8,v9]) (.o 39195 [v31,v9] (.ae [v31,v10]))
 (.o 39556 [sU,v31] (.ae [v10,sU]))))
 (.m 49628 [v228,v229] (.ae [v8,TG]) (.m 42980 [TI,Fx] (.ae [v8,v148]) (.o 41370 [Fx,v148] (.ae [v9,v27]))
 (.o 47444 [v229,TG] (.ae [v9,ck])))
 (.m 50177 [iF,v226] (.ae [v8,TH]) (.o 49915 [sU,v227] (.ae [v8,v228]))
 (.o 51466 [TH,TI] (.ae [v8,Fx]))))]
def k41:List (Nat×an):=[(164,adK)]
def adL:an:=[.m 39984 [v31,bE] (.ae [v33,v10]) (.m 39006 [I4,bE] (.ae [v11,v10]) (.m 38726 [v28,v21] (.ae [v9,v8]) (.m 38200 [v28,v9] (.ae [v28,v10]) (.o 38198 [v21,v9] (NE))
 (.l))
 (.o 38729 [ck,v21] (.ae [v8,v8])))
 (.m 39255 [ck,v28] (.ae [v9,v21]) (.o 39016 [v69,bE] (.ae [ck,v10]))
 (.o 39692 [sU,bE] (.ae [v30,v10]))))
 (.m 40048 [v68,ck] (.ae [v9,bE]) (.m 40040 [v11,ck] (.ae [v22,v28]) (.o 40039 [v21,ck] (.ae [v10,v21]))
 (.o 40041 [v28,ck] (.ae [v10,v28])))
 (.m 42142 [v8,eY] (Jd) (.o 41120 [v69,v68] (.ae [v8,ck]))
 (.o 46360 [v68,v69] (.ae [v10,v68]))))]
def k42:List (Nat×an):=[(164,adL)]
def adM:an:=[.m 38723 [v8,v21] (Jd) (.m 38195 [v10,v9] (Je) (.m 20089 [v35,v24] (.ae [v8,Cv]) (.o 7341 [v24,v35] (.ae [v10,v24]))
 (.o 26622 [v9,v35] (EQ)))
 (.m 38474 [eY,v8] (.ae [ck,v10]) (.o 38458 [v10,v8] (Je))
 (.o 38722 [v9,v21] (EQ))))
 (.m 42156 [eY,eY] (EP) (.m 40398 [v127,bE] (.ae [Yw,v10]) (.o 39607 [v36,v9] (.ae [v36,v10]))
 (.o 42140 [v10,eY] (Je)))
 (.m 46401 [v35,v21] (.ae [Cv,v8]) (.o 45875 [v35,v9] (.ae [v35,v10]))
 (.o 58387 [v24,Cv] (.ae [v9,v9])))),
 .o 38195 [v22,v9] (.ae [v22,v10])]
def k43:List (Nat×an):=[(164,adM)]
def adN:an:=[.m 38724 [v21,v21] (EP) (.m 38199 [v11,v9] (.ae [v11,v10]) (.m 18915 [v24,v9] (.ae [v24,v10]) (.o 18914 [Cv,v9] (.ae [Cv,v10]))
 (.o 38197 [v25,v9] (.ae [v25,v10])))
 (.m 38721 [v10,v21] (Je) (.o 38460 [v25,v8] (.ae [v22,v10]))
 (.l)))
 (.m 39516 [v27,v27] (EP) (.m 38988 [bE,bE] (EP) (.o 38984 [v10,bE] (Je))
 (.o 39512 [v8,v27] (Jd)))
 (.m 42299 [mQ,v8] (.ae [SE,v9]) (.o 42036 [mQ,v9] (.ae [mQ,v10]))
 (.l)))]
def adO:an:=[.m 53922 [iG,v1] (Cw) (.o 41062 [v0,v1] (ER))
 (.o 54962 [v12,v5] (Jf))]
def k44:List (Nat×an):=[(164,adN),(187,adO)]
def adP:an:=[.m 41451 [v232,v233] (.agg [v232,v233]) (.m 28098 [v234,ns] (.agg [v234,ns]) (.m 24930 [ns,ns] (.agg [ns,ns]) (.o 10560 [v236,Nj] (.agg [v236,Nj]))
 (.l))
 (.m 41326 [v1,v6] (.agg [v1,v6]) (.o 34640 [Nk,Nl] (.agg [Nk,Nl]))
 (.l)))
 (.m 41855 [fm,fm] (.agg [fm,fm]) (.m 41590 [v6,v5] (.agg [v6,v5]) (.o 41587 [v2,v5] (.agg [v2,v5]))
 (.l))
 (.m 56785 [JY,nL] (.agg [JY,nL]) (.o 42643 [v5,nL] (NU))
 (.l)))]
def adQ:an:=[.m 2148 [v1] (.agg [v1,v1]) (.m 2147 [v0] (Jg) (.o 2146 [v2] (.agg [v2,v2]))
 (.l))
 (.m 15007 [iG] (.agg [iG,iG]) (.o 2149 [v6] (.agg [v6,v6]))
 (.l))]
def k45:List (Nat×an):=[(187,adP),(219,adQ)]
def adR:an:=[.m 15264 [pg] (.agg [pg,pg]) (.o 2151 [fm] (.agg [fm,fm]))
 (.l)]
def adS:an:=[.o 24078 [.bM .f32 1051372203] (.bool true)]
def adT:an:=[.o 7 [] (.iV [v2,EE,EF,Nn,ns,.str [50,47,51],.str [51,47,52],.str [53,47,54]] [v0,ns,v2,.str [45,49,47,50],iG,.str [45,49,47,50],v2,ns])]
def adU:an:=[.m 6739 [.bM .f64 4710765210229538816] (.bool false) (.o 178 [.bM .f64 4712266410284285952] (.bool false))
 (.l)]
def adV:an:=[.m 6739 [.bM .f64 4710765210229538816] (.bM .f64 4710765210229538816) (.o 178 [.bM .f64 4712266410284285952] (.bM .f64 4712266410284285952))
 (.l)]
def k46:List (Nat×an):=[(219,adR),(231,adS),(238,adT),(246,adU),(252,adV)]
def t1:Tr an:=(.n 124 adm (.n 102 (ac6++ac7) (.n 99 (ahi++ahj) (.n 59 ahh (.n 29 ahg .l .l) .l) (.n 101 (ac4++ac5) (.n 100 (af1++af2++af3++af4++af5++af6++af7++af8++af9++ac3) .l .l) .l)) (.n 111 (ade++adf) (.n 108 (ada++adb) (.n 107 (ac8++ac9) .l .l) .l) (.n 119 (adg++adh++adi++adj++adk++adl) .l .l))) (.n 219 (adQ++adR) (.n 164 (adq++adr++ads++adt++adu++adv++adw++adx++ady++adz++adA++adB++adC++adD++adE++adF++adG++adH++adI++adJ++adK++adL++adM++adN) (.n 129 (ado++adp) (.n 125 adn .l .l) .l) (.n 187 (adO++adP) .l .l)) (.n 246 adU (.n 238 adT (.n 231 adS .l .l) .l) (.n 252 adV .l .l))))
def T1:List (Tr an):=t1::T0
def aga:an:=[.m 46512 [.ai false 2 [EJ,EM],.ai true 2 [EJ,EM]] (.bool true) (.o 13824 [.ai false 2 [EL,EK],.ai true 2 [EL,EK]] (.bool true))
 (.l)]
def agb:an:=[.m 10861 [v109] (v233) (.m 5367 [ph] (JY) (.m 5361 [v91] (v12) (.o 5357 [bD] (v2))
 (.o 5365 [v82] (nL)))
 (.m 9013 [Ez] (EG) (.o 9006 [eW] (ns))
 (.l)))
 (.m 46761 [Na] (Nk) (.m 30894 [v105] (v234) (.o 23598 [sW] (EE))
 (.o 30898 [CR] (.str [53,47,56])))
 (.m 62113 [Nc] (Nl) (.o 57349 [v107] (v232))
 (.l))),
 .o 5361 [v87] (v5)]
def k47:List (Nat×an):=[(28,aga),(46,agb)]
def agc:an:=[.m 12655 [nn] (v3) (.m 5360 [v80] (v6) (.m 5359 [ff] (pg) (.o 5358 [bV] (v0))
 (.l))
 (.m 12653 [Cu] (v4) (.o 5362 [v83] (fm))
 (.l)))
 (.m 47466 [M9] (Nj) (.m 21602 [No] (ail) (.o 16302 [v93] (EF))
 (.l))
 (.o 62288 [Nb] (v236))),
 .o 5359 [v84] (v1)]
def agd:an:=[.m 37518 [v85,v91] (v80) (.o 36466 [v85,v85] (bV))
 (.o 37520 [v84,v91] (ph)),
 .m 37520 [v84,v87] (v82) (.o 37518 [v85,v87] (pZ))
 (.l)]
def k48:List (Nat×an):=[(46,agc),(49,agd)]
def age:an:=[.m 36732 [v80,bV] (v80) (.m 36469 [v80,bD] (bD) (.m 36467 [bV,v85] (v85) (.o 35174 [v84,aik] (YE))
 (.o 36468 [v84,v85] (ff)))
 (.m 36730 [bV,bV] (bV) (.o 36470 [v87,bD] (bD))
 (.o 36731 [v84,bV] (v84))))
 (.m 36994 [v84,v84] (v87) (.m 36734 [v83,bV] (v83) (.o 36733 [v87,bV] (v87))
 (.o 36992 [v85,v84] (ff)))
 (.m 37257 [v84,v80] (pk) (.o 37256 [bV,v80] (v80))
 (.l))),
 .m 36468 [v84,bD] (bD) (.o 36467 [bV,bD] (bD))
 (.l)]
def k49:List (Nat×an):=[(49,age)]
def agf:an:=[.m 36740 [Fy,bV] (Fy) (.m 36472 [pZ,bD] (bD) (.m 36468 [ff,bD] (bD) (.o 36466 [bD,bD] (bD))
 (.o 36471 [v83,bD] (bD)))
 (.m 36733 [v91,bV] (v91) (.o 36729 [bD,bV] (bD))
 (.o 36735 [pk,bV] (pk))))
 (.m 36995 [v80,ff] (ph) (.m 36993 [bV,ff] (ff) (.o 36992 [bD,ff] (bD))
 (.o 36994 [v84,ff] (pZ)))
 (.m 37519 [bV,v91] (v91) (.o 37255 [bD,v80] (bD))
 (.o 37523 [v83,v91] (YF))))]
def agh:an:=[.o 1841 [j 0] (bD)]
def k50:List (Nat×an):=[(49,agf),(69,agh)]
def agi:an:=[.m 1843 [j 2] (v84) (.o 1842 [j 1] (bV))
 (.o 48082 [j 11184811] (SD))]
def agj:an:=[.m 37263 [v82,v80] (j 1) (.m 36992 [v85,v84] (j (-1)) (.m 14979 [v93,v105] (j 1) (.o 7683 [eW,v105] (j 1))
 (.o 35726 [eW,v93] (j 1)))
 (.m 37261 [pZ,v80] (j (-1)) (.o 36993 [bV,v84] (j (-1)))
 (.l)))
 (.m 38574 [v87,v82] (j (-1)) (.m 37522 [v91,v87] (j (-1)) (.o 37265 [ph,v80] (j (-1)))
 (.o 38054 [ph,pZ] (j (-1))))
 (.m 57614 [v105,v93] (j (-1)) (.o 39104 [v82,ph] (j 1))
 (.l)))]
def k51:List (Nat×an):=[(69,agi),(71,agj)]
def agk:an:=[.m 37256 [bV,v80] (j (-1)) (.m 36731 [ff,bV] (j (-1)) (.m 36466 [v85,v85] (j 0) (.o 24283 [v93,eW] (j (-1)))
 (.o 36730 [bV,bV] (j 0)))
 (.m 36994 [ff,ff] (j 0) (.o 36733 [v87,bV] (j 1))
 (.o 36996 [v87,ff] (j 1))))
 (.m 38050 [pk,pk] (j 0) (.m 37258 [v80,v80] (j 0) (.o 37257 [v84,v80] (j (-1)))
 (.o 37521 [v80,v87] (j (-1))))
 (.m 38879 [CR,eW] (j 1) (.o 38875 [v105,eW] (j (-1)))
 (.o 57616 [Fz,v93] (j 1)))),
 .o 36994 [v84,v84] (j 0)]
def k52:List (Nat×an):=[(71,agk)]
def agl:an:=[.m 20636 [Np,eW] (j 1) (.m 16987 [eW,eW] (j 0) (.o 1891 [EA,TJ] (j 1))
 (.o 20635 [v117,eW] (j (-1))))
 (.m 37522 [v87,v87] (j 0) (.o 28996 [EA,I7] (j (-1)))
 (.l))]
def agm:an:=[.o 5358 [bV] (bV)]
def agn:an:=[.m 36995 [v80,v84] (v83) (.m 36729 [bD,bV] (bV) (.m 36467 [bV,bD] (bV) (.o 36466 [bD,bD] (bD))
 (.l))
 (.o 36992 [bD,v84] (v84)))
 (.m 37519 [bV,v87] (v83) (.m 37518 [bD,v87] (v87) (.o 37255 [bD,v80] (v80))
 (.l))
 (.o 38044 [v85,pk] (v83)))]
def k53:List (Nat×an):=[(71,agl),(73,agm),(74,agn)]
def ago:an:=[.m 37521 [v80,v91] (bD) (.m 36471 [v83,bD] (v83) (.m 36469 [v80,bD] (v80) (.o 36468 [v84,bD] (v84))
 (.l))
 (.m 37259 [v91,v80] (bD) (.o 36994 [v84,ff] (bD))
 (.l)))
 (.m 39100 [v87,ph] (ff) (.m 38049 [v83,pZ] (bV) (.o 38048 [v87,pZ] (bD))
 (.l))
 (.m 43841 [Fy,YF] (pZ) (.o 39102 [pk,ph] (bD))
 (.l)))]
def agp:an:=[.m 2150 [v5] (j 0) (.m 2148 [v1] (j 0) (.o 2147 [v0] (j 0))
 (.l))
 (.m 15521 [v12] (j 0) (.o 15007 [iG] (j 0))
 (.l))]
def k54:List (Nat×an):=[(74,ago),(86,agp)]
def agq:an:=[.m 2152 [.str [54]] (j 0) (.m 2149 [v6] (j 0) (.o 2146 [v2] (j 0))
 (.o 2151 [fm] (j 0)))
 (.m 15011 [v130] (j 0) (.o 2154 [nL] (j 0))
 (.o 15572 [v131] (j 0)))]
def adW:an:=[.m 39538 [v73,v27] (v21) (.m 38986 [v8,bE] (v8) (.m 38985 [v9,bE] (v9) (.o 38463 [v28,v8] (v9))
 (.l))
 (.o 39511 [v9,v27] (v9)))
 (.m 40262 [oG,v31] (v8) (.m 40038 [v8,ck] (v8) (.o 40037 [v9,ck] (v9))
 (.l))
 (.o 40263 [EB,v31] (v28)))]
def k55:List (Nat×an):=[(86,agq),(130,adW)]
def adX:an:=[.m 40260 [v36,v31] (v9) (.m 39555 [iF,v31] (v9) (.m 38459 [v9,v8] (v9) (.o 38458 [v22,v8] (v9))
 (.o 38460 [v8,v8] (v8)))
 (.m 40039 [v21,ck] (v9) (.o 39556 [sU,v31] (bE))
 (.o 40041 [v28,ck] (v9))))
 (.m 46370 [I4,v69] (bE) (.m 42140 [v10,eY] (eY) (.o 40262 [v127,v31] (bE))
 (.o 42142 [v8,eY] (v8)))
 (.m 61447 [EN,nt] (eY) (.o 47943 [sY,ck] (bE))
 (.o 64035 [EO,nt] (eY)))),
 .o 38458 [v10,v8] (v8)]
def k56:List (Nat×an):=[(130,adX)]
def adY:an:=[.m 38723 [v8,v21] (v9) (.m 38462 [bE,v8] (v8) (.m 26622 [v9,v35] (v9) (.o 7341 [v24,v35] (v9))
 (.l))
 (.m 38722 [v9,v21] (v9) (.o 38721 [v10,v21] (v21))
 (.l)))
 (.m 39516 [v27,v27] (v27) (.m 39512 [v25,v27] (v8) (.o 38984 [v10,bE] (bE))
 (.l))
 (.m 46401 [v35,v21] (v9) (.o 42299 [mQ,v8] (v9))
 (.l))),
 .m 38721 [v22,v21] (v9) (.o 38462 [v11,v8] (v9))
 (.o 38723 [v25,v21] (v9))]
def adZ:an:=[.m 38749 [v73,v21] (v7) (.o 38727 [v27,v21] (v8))
 (.l)]
def k57:List (Nat×an):=[(130,adY),(148,adZ)]
def ad0:an:=[.m 38992 [ck,bE] (v8) (.m 38203 [ck,v9] (ck) (.m 38199 [bE,v9] (bE) (.m 38197 [v8,v9] (v8) (.o 38196 [v9,v9] (v9))
 (.l))
 (.o 38201 [v27,v9] (v27)))
 (.m 38462 [bE,v8] (v8) (.o 38460 [v8,v8] (v9))
 (.o 38466 [ck,v8] (bE))))
 (.m 40662 [EB,v28] (Yv) (.m 39872 [oG,v8] (iF) (.o 39458 [v31,v8] (Yu))
 (.o 40247 [v31,v28] (v20)))
 (.m 46891 [sY,bE] (.agg [j 1,Nf]) (.o 44631 [TQ,bC] (NG))
 (.o 51269 [TU,bC] (TP))))]
def k58:List (Nat×an):=[(148,ad0)]
def ad1:an:=[.m 37218 [NF,v68] (Ny) (.m 23221 [Ul,bC] (NI) (.m 15847 [Uh,bC] (NF) (.m 12502 [NI,v141] (.agg [j 1,ON]) (.o 1506 [Ui,bC] (TY))
 (.l))
 (.o 16985 [TV,bC] (Ug)))
 (.m 26707 [Uj,bC] (Uk) (.o 25241 [Ut,bC] (Ur))
 (.o 35418 [NK,.agg [j 56,.aa]] (NA))))
 (.m 45348 [NG,v8] (.agg [j 1,v51]) (.m 39824 [Us,bC] (NH) (.o 39132 [NH,.agg [j 90,.aa]] (.agg [j 1,OL]))
 (.o 44138 [Ub,bC] (Uc)))
 (.m 54294 [Ud,bC] (NM) (.o 51549 [NM,.agg [j 132,.aa]] (Nz))
 (.o 58347 [TZ,bC] (NK))))]
def k59:List (Nat×an):=[(148,ad1)]
def ad2:an:=[.m 40594 [TX,bC] (NL) (.m 8933 [Uq,bC] (NO) (.m 6417 [Uf,bC] (TW) (.m 5976 [UE,bC] (NP) (.o 5494 [NQ,.agg [j 462,.aa]] (.agg [j 1,OP]))
 (.l))
 (.o 6609 [UF,bC] (UK)))
 (.m 17484 [NO,.agg [j 306,.aa]] (.agg [j 1,v53]) (.o 10208 [Ue,bC] (Up))
 (.o 21468 [NJ,.agg [j 182,.aa]] (.agg [j 1,OM]))))
 (.m 50063 [Ua,bC] (UD) (.m 46549 [UB,bC] (NQ) (.o 45093 [Um,bC] (Un))
 (.o 49018 [Uo,bC] (NJ)))
 (.m 58276 [NP,.agg [j 380,.aa]] (NB) (.o 52971 [UI,bC] (UA))
 (.o 58578 [NL,.agg [j 240,.aa]] (Nx))))]
def k60:List (Nat×an):=[(148,ad2)]
def ad3:an:=[.m 30325 [UN,bC] (Uu) (.m 13230 [Uv,bC] (NS) (.m 9243 [UP,bC] (v143) (.m 8107 [NR,.agg [j 650,.aa]] (UM) (.o 1584 [Nh,.agg [j 992,.aa]] (OO))
 (.l))
 (.o 9739 [Uy,bC] (YC)))
 (.m 26135 [UC,bC] (YA) (.o 16322 [UO,bC] (UG))
 (.o 27885 [UL,bC] (NN))))
 (.m 35274 [UH,bC] (NR) (.m 31596 [NN,.agg [j 552,.aa]] (NC) (.o 30929 [Uw,bC] (Nh))
 (.o 32606 [UJ,bC] (Yz)))
 (.m 46446 [NS,.agg [j 756,.aa]] (v59) (.o 43783 [Ux,bC] (Ng))
 (.o 61455 [v143,.agg [j 870,.aa]] (v63))))]
def k61:List (Nat×an):=[(148,ad3)]
def ad4:an:=[.m 39692 [sU,bE] (v30) (.m 18972 [UR,bC] (v145) (.m 18179 [Ng,.agg [j 1122,.aa]] (YB) (.m 15280 [UU,bC] (v70) (.o 6351 [nt,eY] (NT))
 (.l))
 (.o 18392 [UT,bC] (v37)))
 (.m 38902 [iF,v9] (iF) (.o 29390 [US,bC] (v65))
 (.o 39195 [v31,v9] (v31))))
 (.m 46786 [UQ,bC] (v146) (.m 43138 [EN,eY] (.agg [j 1,I6]) (.o 42308 [v146,.agg [j 1406,.aa]] (Fx))
 (.o 45726 [EO,eY] (.agg [j 1,I5])))
 (.m 57597 [Uz,bC] (YD) (.o 55096 [v37,.agg [j 1560,.aa]] (v10))
 (.o 64765 [v145,.agg [j 1260,.aa]] (OQ))))]
def k62:List (Nat×an):=[(148,ad4)]
def ad5:an:=[.m 39016 [v69,bE] (ck) (.m 38200 [v28,v9] (v28) (.m 38198 [v21,v9] (v21) (.m 38195 [v22,v9] (v22) (.o 18915 [v24,v9] (v24))
 (.l))
 (.o 38199 [v11,v9] (v11)))
 (.m 38474 [eY,v8] (ck) (.o 38458 [v10,v8] (v10))
 (.o 39006 [I4,bE] (v11))))
 (.m 42036 [mQ,v9] (mQ) (.m 39984 [v31,bE] (v33) (.o 39607 [v36,v9] (v36))
 (.o 40398 [v127,bE] (Yw)))
 (.m 42156 [eY,eY] (v9) (.o 42140 [v10,eY] (v10))
 (.o 45875 [v35,v9] (v35))))]
def k63:List (Nat×an):=[(148,ad5)]
def ad6:an:=[.m 38724 [v21,v21] (v9) (.m 38464 [v27,v8] (v21) (.m 38460 [v25,v8] (v22) (.o 38197 [v25,v9] (v25))
 (.l))
 (.o 38721 [v10,v21] (v10)))
 (.m 38988 [bE,bE] (v9) (.o 38984 [v10,bE] (v10))
 (.o 39516 [v27,v27] (v9)))]
def ad7:an:=[.m 30897 [zB] (v22) (.m 23598 [sW] (v10) (.m 9013 [Ez] (v11) (.o 5460 [.agg [j 1,I5,j 1,v183]] (iF))
 (.l))
 (.o 30894 [v105] (v10)))
 (.m 39727 [YE] (v40) (.o 38940 [WZ] (de))
 (.o 54439 [.agg [j 1,I6,j 1,v183]] (iF)))]
def k64:List (Nat×an):=[(148,ad6),(149,ad7)]
def ad8:an:=[.m 16302 [v93] (v10) (.m 12846 [EH] (SE) (.o 5357 [bD] (v10))
 (.l))
 (.o 20333 [EI] (Cv))]
def ad9:an:=[.m 55282 [v8,j 11] (v44) (.m 52660 [v37,j 1] (v37) (.m 52651 [v9,j 1] (v9) (.o 26 [v37,j 50] (bC))
 (.o 52652 [v8,j 1] (v8)))
 (.m 53186 [v37,j 3] (v31) (.o 52923 [v37,j 2] (v42))
 (.l)))
 (.m 58963 [v9,j 25] (v9) (.m 57131 [v37,j 18] (JZ) (.o 56342 [v37,j 15] (v49))
 (.l))
 (.m 64758 [v37,j 47] (nt) (.o 58964 [v8,j 25] (v35))
 (.l)))]
def k65:List (Nat×an):=[(149,ad8),(155,ad9)]
def aea:an:=[.m 58700 [v9,j 24] (v9) (.o 54501 [v37,j 8] (v48))
 (.o 58701 [v8,j 24] (v76))]
def aeb:an:=[.m 40798 [v2,v0] (.agg [v2,v2,v0,v0]) (.m 17957 [v0,pg] (.agg [v0,v0,pg,pg]) (.o 15889 [v6,iG] (W0))
 (.l))
 (.m 41855 [fm,fm] (.agg [fm,fm,fm,fm]) (.o 41062 [v0,v1] (Jh))
 (.l))]
def aec:an:=[.m 11349 [j 5,j 1,j 12] (j 0) (.m 11347 [j 3,j 1,j 12] (j 0) (.o 11346 [j 2,j 1,j 12] (j 0))
 (.l))
 (.m 49423 [j 3,j 0,j 256] (j 0) (.o 43068 [j 1,j 1,j 2147483646] (j 0))
 (.l))]
def aed:an:=[.o 48388 [Nq] (sX),
 .o 48388 [sX] (Nq)]
def aee:an:=[.o 23873 [.bM .f64 4712266410284285952,j 0] (.bool false)]
def k66:List (Nat×an):=[(155,aea),(196,aeb),(206,aec),(222,aed),(245,aee)]
def aef:an:=[.o 30434 [.bM .f64 4710765210229538816,j 0] (.bool false)]
def aeg:an:=[.m 6739 [.bM .f64 4710765210229538816] (.ae [.bM .f64 4710765210229538816,j 0]) (.o 178 [.bM .f64 4712266410284285952] (.ae [.bM .f64 4712266410284285952,j 0]))
 (.l)]
def k67:List (Nat×an):=[(245,aef),(247,aeg)]
def t2:Tr an:=(.n 130 (adW++adX++adY) (.n 71 (agj++agk++agl) (.n 49 (agd++age++agf) (.n 46 (agb++agc) (.n 28 aga .l .l) .l) (.n 69 (agh++agi) .l .l)) (.n 74 (agn++ago) (.n 73 agm .l .l) (.n 86 (agp++agq) .l .l))) (.n 206 aec (.n 155 (ad9++aea) (.n 149 (ad7++ad8) (.n 148 (adZ++ad0++ad1++ad2++ad3++ad4++ad5++ad6) .l .l) .l) (.n 196 aeb .l .l)) (.n 245 (aee++aef) (.n 222 aed .l .l) (.n 247 aeg .l .l))))
def T2:List (Tr an):=t2::T1
def agr:an:=[.o 36466 [bD,bD] (bD)]
def aeh:an:=[.m 40038 [v8,ck] (v93) (.m 39511 [v9,v27] (sW) (.m 38985 [v9,bE] (v93) (.o 38459 [v9,v8] (eW))
 (.o 38986 [v8,bE] (eW)))
 (.m 39556 [sU,v31] (Nc) (.o 39555 [iF,v31] (Na))
 (.o 40037 [v9,ck] (v105))))
 (.m 46370 [I4,v69] (zB) (.m 40263 [EB,v31] (v109) (.o 40262 [oG,v31] (v107))
 (.o 40577 [EC,pX] (Ez)))
 (.m 61447 [EN,nt] (.agg [j 1,I6,j 1,v183]) (.o 47943 [sY,ck] (WZ))
 (.o 64035 [EO,nt] (.agg [j 1,I5,j 1,v183]))))]
def k68:List (Nat×an):=[(50,agr),(101,aeh)]
def aei:an:=[.m 40039 [v21,ck] (Fz) (.m 38459 [v9,v25] (jF) (.m 26622 [v9,v35] (Nr) (.o 7341 [v24,v35] (No))
 (.o 38458 [v10,v8] (bD)))
 (.m 38462 [bE,v8] (v84) (.o 38460 [v8,v8] (bV))
 (.o 38723 [v8,v21] (Np))))
 (.m 42140 [v10,eY] (bD) (.m 40260 [v36,v31] (M9) (.o 40041 [v28,ck] (CR))
 (.o 40262 [v127,v31] (Nb)))
 (.m 42299 [mQ,v8] (EH) (.o 42142 [v8,eY] (v105))
 (.o 46401 [v35,v21] (EI)))),
 .o 38458 [v22,v8] (jF)]
def k69:List (Nat×an):=[(101,aei)]
def aej:an:=[.m 38984 [v10,bE] (bD) (.m 38721 [v10,v21] (bD) (.o 38462 [v11,v8] (AA))
 (.o 38723 [v25,v21] (nn)))
 (.m 39512 [v25,v27] (Cu) (.o 38986 [v8,v11] (nn))
 (.o 39516 [v27,v27] (bV))),
 .o 38721 [v22,v21] (Cu)]
def aek:an:=[.m 2154 [nL] (ck) (.m 2150 [v5] (bE) (.m 2148 [v1] (v8) (.o 2147 [v0] (v9))
 (.l))
 (.o 2151 [fm] (v28)))
 (.m 15521 [v12] (v11) (.o 15007 [iG] (v22))
 (.o 16035 [.str [45,53]] (v7)))]
def k70:List (Nat×an):=[(101,aej),(110,aek)]
def ael:an:=[.m 6518 [.str [51,49,52,49,53,57,50,54,53,51,53,56,57,55,57,51,50,51,56,52,54,50,54,52,51,51,56,51,50,55,57,53,48,50,56,56,52,49,57,55,49,54,57,51,57,57,51,55,53,49,48]] (TS) (.m 2149 [v6] (v21) (.o 2146 [v2] (v10))
 (.o 2152 [.str [54]] (v27)))
 (.m 15572 [v131] (mQ) (.o 15011 [v130] (v72))
 (.l))]
def aem:an:=[.m 41249 [aim] (.bt true 1 2 [v1,v0]) (.m 28005 [TK] (.bt true 1 3 [v0,v2,v4]) (.o 6710 [Ns] (.bt true 1 3 [v2,v0,v3]))
 (.l))
 (.m 55533 [ain] (.bt true 1 2 [v5,v6]) (.o 48389 [aio] (.bt true 1 2 [v0,v1]))
 (.l))]
def aen:an:=[.m 44486 [.ai true 2 [v5,nL]] (j 0) (.m 43433 [NV] (j 0) (.o 42905 [AB] (j 0))
 (.l))
 (.m 56805 [.ai true 2 [v12,v5]] (j 0) (.o 55765 [.ai true 2 [iG,v1]] (j 0))
 (.l))]
def k71:List (Nat×an):=[(110,ael),(123,aem),(161,aen)]
def aeo:an:=[.m 42642 [.ai true 2 [v0,v0]] (j 0) (.m 30590 [.ai true 2 [iG,iG]] (j 0) (.m 18786 [.ai true 2 [fm,v130]] (j 0) (.o 5873 [NW] (j 0))
 (.l))
 (.m 42641 [NX] (j 0) (.o 42379 [NY] (j 0))
 (.l)))
 (.m 43170 [.ai true 2 [v6,v6]] (j 0) (.m 43169 [.ai true 2 [v1,v6]] (j 0) (.o 42906 [.ai true 2 [v1,v1]] (j 0))
 (.l))
 (.o 59923 [NZ] (j 0)))]
def aep:an:=[.o 26326 [j 1,j 3] (.ae [.bt false 1 3 [j 0,j 2,j 1],j 0])]
def aeq:an:=[.m 9013 [Ez] (.ae [EG,j 0]) (.o 5361 [v91] (.ae [v12,j 0]))
 (.l)]
def aer:an:=[.m 38580 [ph,v82] (N1) (.o 37518 [bD,v87] (.ae [.agg [v2,v5],j 0]))
 (.o 38875 [v105,eW] (W1))]
def k72:List (Nat×an):=[(161,aeo),(180,aep),(208,aeq),(214,aer)]
def aes:an:=[.m 36730 [bV,bV] (.ae [Jg,j 0]) (.m 29027 [v107,v109] (W2) (.o 389 [Na,Nc] (W3))
 (.o 29494 [Nb,M9] (W4)))
 (.m 37786 [v83,v83] (.ae [.agg [fm,fm],j 0]) (.o 36994 [ff,ff] (.ae [.agg [pg,pg],j 0]))
 (.l))]
def aet:an:=[.o 1844 [j 3] (j 0)]
def aeu:an:=[.m 10849 [q9,TL] (I8) (.o 3138 [I9,sX] (I8))
 (.o 25702 [Ja,aip] (I8))]
def aev:an:=[.m 40917 [aiq,.fn (.f 71) [] []] (v85) (.m 22010 [air,.fn (.f 71) [] []] (ff) (.o 17253 [ais,.fn (.f 71) [] []] (ff))
 (.o 31477 [ait,.fn (.f 71) [] []] (v105)))
 (.m 53609 [aiu,.fn (.f 71) [] []] (ph) (.o 45317 [aiv,.fn (.f 71) [] []] (v80))
 (.l))]
def k73:List (Nat×an):=[(214,aes),(215,aet),(223,aeu),(233,aev)]
def aew:an:=[.m 22163 [.ai true 2 [j 4,.aa,j 1,.aa,j 4,.aa,j 1,.aa],.fn (.f 71) [] []] (v87) (.m 3103 [aiw,.fn (.f 71) [] []] (v87) (.o 737 [.ai true 2 [j 1,.aa,j 1,.aa,j 1,.aa,j 1,.aa],.fn (.f 71) [] []] (bV))
 (.l))
 (.m 64224 [aix,.fn (.f 71) [] []] (bV) (.o 49717 [aiy,.fn (.f 71) [] []] (pk))
 (.l))]
def aex:an:=[.m 40917 [aiq,.fn (.f 71) [] []] (v85) (.m 22010 [air,.fn (.f 71) [] []] (ff) (.m 17253 [ais,.fn (.f 71) [] []] (v87) (.o 3103 [aiw,.fn (.f 71) [] []] (v87))
 (.l))
 (.o 31477 [ait,.fn (.f 71) [] []] (eW)))
 (.m 53609 [aiu,.fn (.f 71) [] []] (v82) (.m 49717 [aiy,.fn (.f 71) [] []] (pk) (.o 45317 [aiv,.fn (.f 71) [] []] (v80))
 (.l))
 (.o 64224 [aix,.fn (.f 71) [] []] (bV)))]
def aey:an:=[.m 1891 [j 50] (bC) (.o 1844 [j 3] (v31))
 (.l)]
def k74:List (Nat×an):=[(233,aew),(234,aex),(236,aey)]
def aez:an:=[.o 1888 [j 47] (nt)]
def aeA:an:=[.m 28694 [v8] (v9) (.o 28693 [v9] (v9))
 (.o 63062 [v40] (oG))]
def aeB:an:=[.m 22882 [Nt,Nt,bV,bD] (.bt false 4 3 [j 1,.aa,j 1,.aa,j 2,.aa,j 1,.aa,j 3,.aa,j 1,.aa]) (.m 17414 [aiz,Jb,bV,v91] (.bt false 4 3 [j 0,.aa,j 1,.aa,j (-2),.aa,j 1,.aa,j (-4),.aa,j 1,.aa]) (.o 6694 [Jb,aiA,bV,ff] (.bt false 4 3 [j 1,.aa,j 1,.aa,j 0,.aa,j 1,.aa,j 1,.aa,j 1,.aa]))
 (.l))
 (.m 50957 [Jb,Jb,bV,bD] (.bt false 4 3 [j 1,.aa,j 1,.aa,j 2,.aa,j 1,.aa,j 5,.aa,j 1,.aa]) (.o 46012 [TM,aiB,bV,ff] (.bt false 4 3 [j 0,.aa,j 1,.aa,j 0,.aa,j 1,.aa,j 0,.aa,j 1,.aa]))
 (.l))]
def aeC:an:=[.m 35366 [v84,j 24] (TJ) (.o 29317 [v84,j 1] (v84))
 (.o 35629 [v84,j 25] (I7))]
def aeD:an:=[.m 36497 [.bM .f64 4712266410284285952,j (-25)] (.bM .f64 4599676419600023552) (.o 30697 [.bM .f64 4710765210229538816,j 1] (.bM .f64 4715268809856909312))
 (.l)]
def k75:List (Nat×an):=[(236,aez),(237,aeA),(240,aeB),(241,aeC),(243,aeD)]
def t3:Tr an:=(.n 215 aet (.n 161 (aen++aeo) (.n 110 (aek++ael) (.n 101 (aeh++aei++aej) (.n 50 agr .l .l) .l) (.n 123 aem .l .l)) (.n 208 aeq (.n 180 aep .l .l) (.n 214 (aer++aes) .l .l))) (.n 237 aeA (.n 234 aex (.n 233 (aev++aew) (.n 223 aeu .l .l) .l) (.n 236 (aey++aez) .l .l)) (.n 241 aeC (.n 240 aeB .l .l) (.n 243 aeD .l .l))))
def T3:List (Tr an):=t3::T2
def ags:an:=[.m 32078 [bV,v93] (v93) (.m 13076 [bV,jF] (jF) (.m 11941 [.agg [j 1,Yx,j 1,.aa],v105] (WZ) (.m 4036 [v84,v105] (v93) (.o 4035 [bV,v105] (v105))
 (.l))
 (.o 13075 [bD,jF] (bD)))
 (.m 13081 [pZ,jF] (v84) (.o 13077 [ff,jF] (bV))
 (.o 17179 [EA,eW] (EH))))
 (.m 40903 [jF,v80] (AA) (.m 32452 [v117,I7] (EI) (.o 32079 [v84,v93] (eW))
 (.o 40118 [AA,bD] (bD)))
 (.m 56542 [SD,Nr] (No) (.o 55731 [bD,nn] (bD))
 (.o 59383 [AA,nn] (bV))))]
def k76:List (Nat×an):=[(49,ags)]
def agt:an:=[.m 20636 [nn,eW] (Cu) (.m 13339 [bV,eW] (eW) (.o 13338 [bD,eW] (bD))
 (.l))
 (.m 55732 [bV,nn] (nn) (.o 40377 [jF,bV] (jF))
 (.l))]
def agu:an:=[.m 15007 [iG] (v85) (.m 2149 [v6] (v80) (.m 2148 [v1] (v84) (.o 2147 [v0] (bV))
 (.l))
 (.m 2154 [nL] (v82) (.o 2150 [v5] (v87))
 (.l)))
 (.m 47135 [EE] (sW) (.m 27639 [EG] (Ez) (.o 15521 [v12] (v91))
 (.l))
 (.m 54535 [Nv] (TN) (.o 48191 [v234] (v105))
 (.l)))]
def k77:List (Nat×an):=[(49,agt),(62,agu)]
def agv:an:=[.m 15011 [v130] (Fy) (.m 2151 [fm] (v83) (.o 2146 [v2] (bD))
 (.o 2152 [.str [54]] (pk)))
 (.m 45551 [Nn] (v117) (.o 15572 [v131] (EA))
 (.o 46079 [EF] (v93)))]
def agw:an:=[.m 5365 [v82] (v105) (.m 5361 [v87] (v93) (.o 5359 [ff] (jF))
 (.l))
 (.m 13037 [I7] (Nr) (.o 9009 [AA] (nn))
 (.l)),
 .o 5359 [v84] (eW)]
def agx:an:=[.m 57350 [TN,YG] (zB) (.o 54707 [sW,bD] (sW))
 (.o 62003 [v105,bD] (v105))]
def k78:List (Nat×an):=[(62,agv),(73,agw),(74,agx)]
def agy:an:=[.m 42759 [v93,YG] (bD) (.m 14127 [bD,AA] (AA) (.m 5876 [bV,v96] (Fz) (.o 5013 [EH,aii] (eW))
 (.o 8472 [eW,zB] (v105)))
 (.m 40114 [jF,bD] (jF) (.o 16986 [jF,eW] (bD))
 (.l)))
 (.m 55205 [bD,Cu] (Cu) (.m 47411 [v93,bD] (v93) (.o 43764 [nn,bD] (nn))
 (.l))
 (.m 64865 [EI,aij] (Np) (.o 62269 [zB,bV] (CR))
 (.l)))]
def agz:an:=[.m 48191 [v234] (j 0) (.m 47135 [EE] (j 0) (.o 27639 [EG] (j 0))
 (.l))
 (.o 54535 [Nv] (j 0))]
def k79:List (Nat×an):=[(74,agy),(86,agz)]
def agA:an:=[.m 46079 [EF] (j 0) (.o 45551 [Nn] (j 0))
 (.l)]
def aeE:an:=[.m 2922 [NV,.bZ [AD]] (j 0) (.m 2130 [NX,.bZ [Cx]] (j 0) (.o 1868 [NY,.bZ [Cx]] (j 0))
 (.o 2394 [AB,.bZ [AD]] (j 0)))
 (.m 30883 [NW,.bZ [AE]] (j 0) (.o 19412 [NZ,.bZ [AE]] (j 0))
 (.l))]
def aeF:an:=[.o 28181 [j 15,j (-6)] (.ae [EG,j 0])]
def aeG:an:=[.o 29578 [bD,j 2] (.ae [Jg,j 0])]
def aeH:an:=[.m 39522 [sX,Ja] (Nq) (.m 32380 [q9,Ja] (Ja) (.o 10617 [q9,q9] (q9))
 (.o 32612 [q9,I9] (I9)))
 (.m 60989 [Nw,Nw] (.agg [j (-2),.aa,j 1,.aa,j 4,.aa,j 1,.aa]) (.o 39754 [sX,I9] (aip))
 (.l))]
def k80:List (Nat×an):=[(86,agA),(126,aeE),(185,aeF),(218,aeG),(221,aeH)]
def aeI:an:=[.o 61517 [sX,sX] (TL)]
def aeJ:an:=[.m 54375 [q9,Nq] (ai2) (.o 17654 [I8,I8] (ai3))
 (.l)]
def aeK:an:=[.m 35247 [.ai false 2 [aim,ain]] (.ae [.bt false 1 2 [EJ,EM],j 0]) (.o 23670 [.ai true 2 [TK,Ns]] (.ae [.bt false 1 2 [EL,EK],j 0]))
 (.o 50231 [.ai true 1 [aio]] (.ae [.bt false 1 1 [AB],j 0]))]
def aeL:an:=[.o 1730 [.ai false 2 [Nt,TM]] (.ae [.bt false 1 1 [aiB],.bt false 1 1 [j 0]])]
def aeM:an:=[.m 1866 [j 25] (I7) (.o 1865 [j 24] (TJ))
 (.l)]
def aeN:an:=[.m 36497 [.bM .f64 4712266410284285952,j (-25)] (.bM .f64 4599676419600023552) (.o 30697 [.bM .f64 4710765210229538816,j 1] (.bM .f64 4715268809856909312))
 (.l)]
def aeO:an:=[.o 5359 [v84] (.ae [bV,.bool false])]
def k81:List (Nat×an):=[(221,aeI),(224,aeJ),(226,aeK),(227,aeL),(228,aeM),(230,aeN),(235,aeO)]
def t4:Tr an:=(.n 218 aeG (.n 74 (agx++agy) (.n 62 (agu++agv) (.n 49 (ags++agt) .l .l) (.n 73 agw .l .l)) (.n 126 aeE (.n 86 (agz++agA) .l .l) (.n 185 aeF .l .l))) (.n 227 aeL (.n 224 aeJ (.n 221 (aeH++aeI) .l .l) (.n 226 aeK .l .l)) (.n 230 aeN (.n 228 aeM .l .l) (.n 235 aeO .l .l))))
def T4:List (Tr an):=t4::T3
def agB:an:=[.m 47411 [v93,bD] (v93) (.m 24747 [EH,SA] (eW) (.m 8209 [eW,Fz] (v105) (.o 5087 [bV,CR] (Fz))
 (.l))
 (.m 43022 [v93,v93] (bD) (.o 25656 [EI,SB] (Np))
 (.l)))
 (.m 62003 [v105,bD] (v105) (.m 57613 [TN,v93] (zB) (.o 54707 [sW,bD] (sW))
 (.l))
 (.o 62006 [zB,v85] (CR)))]
def agC:an:=[.m 38571 [bV,v82] (v105) (.m 37520 [v84,v87] (eW) (.o 37519 [bV,v87] (v93))
 (.l))
 (.o 38572 [v84,v82] (v93))]
def agD:an:=[.m 56805 [.ai true 2 [v12,v5]] (.bt true 4 2 [j (-3),.aa,j 1,.aa,j 4,.aa,j 1,.aa]) (.o 55765 [.ai true 2 [iG,v1]] (.bt true 4 2 [j (-1),.aa,j 1,.aa,j 2,.aa,j 1,.aa]))
 (.l)]
def k82:List (Nat×an):=[(50,agB),(70,agC),(88,agD)]
def agE:an:=[.m 42905 [AB] (.bt true 4 2 [j 1,.aa,j 1,.aa,j 2,.aa,j 1,.aa]) (.m 42379 [NY] (.bt true 4 2 [j 1,.aa,j 1,.aa,j 0,.aa,j 1,.aa]) (.o 5873 [NW] (.bt true 4 3 [j 2,.aa,j 1,.aa,j 4,.aa,j 1,.aa,j 6,.aa,j 1,.aa]))
 (.o 42641 [NX] (.bt true 4 2 [j 0,.aa,j 1,.aa,j 1,.aa,j 1,.aa])))
 (.m 44486 [.ai true 2 [v5,nL]] (.bt true 4 2 [j 4,.aa,j 1,.aa,j 8,.aa,j 1,.aa]) (.o 43433 [NV] (.bt true 4 2 [j 3,.aa,j 1,.aa,j 4,.aa,j 1,.aa]))
 (.o 59923 [NZ] (.bt true 4 3 [j 1,.aa,j 1,.aa,j 2,.aa,j 1,.aa,j 3,.aa,j 1,.aa])))]
def aeP:an:=[.m 24621 [AD,.fn (.f 126) [] [.bZ [AD]]] (j 0) (.o 9239 [Cx,.fn (.f 126) [] [.bZ [Cx]]] (j 0))
 (.o 57030 [AE,.fn (.f 126) [] [.bZ [AE]]] (j 0))]
def aeQ:an:=[.o 27639 [EG] (.ae [v12,j 0])]
def aeR:an:=[.m 44484 [NU] (j 0) (.m 43431 [.agg [v6,v5]] (j 0) (.o 42903 [ER] (j 0))
 (.l))
 (.m 56803 [Jf] (j 0) (.o 55763 [Cw] (j 0))
 (.l))]
def k83:List (Nat×an):=[(88,agE),(127,aeP),(186,aeQ),(210,aeR)]
def aeS:an:=[.m 42904 [.agg [v1,v1]] (j 0) (.m 42640 [Jg] (j 0) (.o 30588 [.agg [iG,iG]] (j 0))
 (.l))
 (.m 43168 [.agg [v6,v6]] (j 0) (.o 43167 [.agg [v1,v6]] (j 0))
 (.l))]
def aeT:an:=[.m 42904 [.agg [v1,v1]] (sX) (.m 42640 [Jg] (q9) (.o 30588 [.agg [iG,iG]] (Ja))
 (.l))
 (.m 55763 [Cw] (Nw) (.o 43168 [.agg [v6,v6]] (I9))
 (.l))]
def aeU:an:=[.m 48386 [Nw] (.agg [j 0,.aa,j 1,.aa,j 4,.aa,j 1,.aa]) (.o 41246 [q9] (q9))
 (.o 48388 [sX] (TL))]
def aeV:an:=[.o 29843 [v84,j 3] (W2)]
def aeW:an:=[.m 7154 [v234,j 3] (j 0) (.o 6624 [EE,j 5] (j 0))
 (.l)]
def k84:List (Nat×an):=[(210,aeS),(212,aeT),(213,aeU),(216,aeV),(217,aeW)]
def aeX:an:=[.m 13498 [Nv,j 3] (j 0) (.o 4779 [EF,j 2] (j 0))
 (.l)]
def aeY:an:=[.m 1889 [j (-25)] (Nr) (.o 1841 [j (-1)] (eW))
 (.l)]
def aeZ:an:=[.m 35092 [aiC,aiD,bV,v80] (.bt false 4 3 [j 0,.aa,j 1,.aa,j (-3),.aa,j 2,.aa,j 1,.aa,j 1,.aa]) (.m 32172 [TO,TO,jF,bD] (.bt false 4 3 [j 1,.aa,j 1,.aa,j (-1),.aa,j 2,.aa,j 0,.aa,j 1,.aa]) (.o 24528 [aiD,Ns,bV,eW] (.bt false 4 3 [j 1,.aa,j 1,.aa,j 0,.aa,j 1,.aa,j (-1),.aa,j 3,.aa]))
 (.l))
 (.m 64653 [aiE,aiE,nn,bD] (.bt false 4 3 [j 0,.aa,j 1,.aa,j 1,.aa,j 1,.aa,j (-2),.aa,j 3,.aa]) (.o 35463 [aiF,aiF,jF,bD] (.bt false 4 3 [j 0,.aa,j 1,.aa,j 1,.aa,j 1,.aa,j 2,.aa,j 1,.aa]))
 (.l))]
def ae0:an:=[.o 2218 [v105,j 50] (ND)]
def k85:List (Nat×an):=[(217,aeX),(228,aeY),(240,aeZ),(244,ae0)]
def t5:Tr an:=(.n 212 aeT (.n 127 aeP (.n 70 agC (.n 50 agB .l .l) (.n 88 (agD++agE) .l .l)) (.n 210 (aeR++aeS) (.n 186 aeQ .l .l) .l)) (.n 228 aeY (.n 216 aeV (.n 213 aeU .l .l) (.n 217 (aeW++aeX) .l .l)) (.n 244 ae0 (.n 240 aeZ .l .l) .l)))
def T5:List (Tr an):=t5::T4
def agF:an:=[.m 49750 [Cx] (j 0) (.o 32020 [AE] (j 0))
 (.o 65132 [AD] (j 0))]
def ae1:an:=[.o 55763 [Cw] (.ae [.agg [v2,v5],j 0])]
def ae2:an:=[.m 62761 [ER,.agg [v6,v5]] (.ae [j (-1),j 0]) (.o 58850 [ER,.agg [v1,v6]] (.ae [j 0,j 24]))
 (.l)]
def ae3:an:=[.o 26632 [v1,j 3] (W2)]
def ae4:an:=[.m 37625 [ER,NU,.fn (.f 70) [] []] (W1) (.o 14332 [Cw,Jf,.fn (.f 49) [] []] (N1))
 (.l)]
def ae5:an:=[.m 48608 [sW,j 5] (ai4) (.o 40523 [v93,j 2] (.ae [.agg [v2,v2],j 0]))
 (.l)]
def ae6:an:=[.m 53088 [W0] (j 0) (.o 33922 [Jh] (j 0))
 (.l)]
def ae7:an:=[.m 49750 [Cx] (.bt false 1 2 [.ai true 2 [j 0,.aa,j 1,.aa,j 1,.aa,j 1,.aa],.ai true 2 [j 1,.aa,j 1,.aa,j 0,.aa,j 1,.aa]]) (.o 32020 [AE] (.bt false 1 2 [Nt,TM]))
 (.o 65132 [AD] (.bt false 1 2 [.ai true 2 [j 1,.aa,j 1,.aa,j 2,.aa,j 1,.aa],.ai true 2 [j 3,.aa,j 1,.aa,j 4,.aa,j 1,.aa]]))]
def k86:List (Nat×an):=[(84,agF),(190,ae1),(191,ae2),(192,ae3),(211,ae4),(218,ae5),(220,ae6),(225,ae7)]
def ae8:an:=[.m 49312 [.ai false 2 [Jb,aiz]] (.ae [.bt true 1 2 [.ai false 3 [j 1,.aa,j 1,.aa,j 0,.aa,j 1,.aa,j 1,.aa,j 1,.aa],aiA],.bt false 1 2 [j 0,j 1]]) (.o 17358 [.ai false 2 [TO,aiC]] (.ae [.bt true 1 2 [TK,Ns],.bt false 1 2 [j 0,j 1]]))
 (.l)]
def ae9:an:=[.m 20333 [EI] (j 11184811) (.o 12846 [EH] (j 8388608))
 (.l)]
def afa:an:=[.o 24078 [.bM .f32 1051372203] (No)]
def afb:an:=[.o 55378 [v105,j 3] (iF)]
def k87:List (Nat×an):=[(227,ae8),(229,ae9),(232,afa),(239,afb)]
def t6:Tr an:=(.n 220 ae6 (.n 192 ae3 (.n 190 ae1 (.n 84 agF .l .l) (.n 191 ae2 .l .l)) (.n 218 ae5 (.n 211 ae4 .l .l) .l)) (.n 229 ae9 (.n 227 ae8 (.n 225 ae7 .l .l) .l) (.n 239 afb (.n 232 afa .l .l) .l)))
def T6:List (Tr an):=t6::T5
def afc:an:=[.o 12095 [ER,NU] (W1)]
def afd:an:=[.o 6624 [EE,j 5] (ai4)]
def afe:an:=[.o 4779 [EF,j 2] (.ae [.agg [v2,v2,v0,v0],j 0])]
def aff:an:=[.o 38252 [Jh,W0] (ai3)]
def afg:an:=[.o 33922 [Jh] (ai2)]
def afh:an:=[.o 33922 [Jh] (.ae [.agg [fm,fm],j 0])]
def afi:an:=[.o 43341 [AD,Cx] (.ae [.ai false 2 [EJ,EM],j 0])]
def afj:an:=[.o 24413 [AD,.ai true 2 [fm,v130]] (.ae [AB,j 0])]
def afk:an:=[.m 45551 [Nn] (.ae [.bM .f32 1051372203,j 0]) (.o 15572 [v131] (.ae [.bM .f32 1266679808,j 0]))
 (.l)]
def afl:an:=[.o 24078 [.bM .f32 1051372203] (.ae [ail,j 0])]
def afm:an:=[.o 32020 [AE] (.ae [.ai false 2 [EL,EK],j 0])]
def afn:an:=[.o 32020 [AE] (.ae [j 1,j 0])]
def afo:an:=[.o 14332 [Cw,Jf,.fn (.f 49) [] []] (N1)]
def afp:an:=[.m 55381 [zB,j 3] (W4) (.o 55378 [v105,j 3] (W3))
 (.l)]
def k88:List (Nat×an):=[(189,afc),(193,afd),(195,afe),(197,aff),(198,afg),(199,afh),(200,afi),(201,afj),(202,afk),(203,afl),(204,afm),(205,afn),(209,afo),(218,afp)]
def t7:Tr an:=(.n 201 afj (.n 197 aff (.n 193 afd (.n 189 afc .l .l) (.n 195 afe .l .l)) (.n 199 afh (.n 198 afg .l .l) (.n 200 afi .l .l))) (.n 205 afn (.n 203 afl (.n 202 afk .l .l) (.n 204 afm .l .l)) (.n 218 afp (.n 209 afo .l .l) .l)))
def T7:List (Tr an):=t7::T6
def afq:an:=[.o 54323 [Cw,Jf] (N1)]
def afr:an:=[.o 7154 [v234,j 3] (W3)]
def afs:an:=[.o 13498 [Nv,j 3] (W4)]
def k89:List (Nat×an):=[(188,afq),(193,afr),(194,afs)]
def t8:Tr an:=(.n 193 afr (.n 188 afq .l .l) (.n 194 afs .l .l))
def T8:List (Tr an):=t8::T7
def aft:an:=[.o 7 [] (.bool true)]
def k90:List (Nat×an):=[(179,aft)]
def t9:Tr an:=(.n 179 aft .l .l)
def T9:List (Tr an):=t9::T8
end pc
end VE
