import Derived.Test.YtkhmakhdoedjiaaGreatDoorTav
import Derived.Test.YtkhmakhdoedjiaaGreatDoorTau
set_option linter.all false
set_option maxRecDepth 100000
namespace VE
namespace VK1
def T0:List (Tr zE):=[]
abbrev j (n:Int):AV:= .int .i64 n
abbrev u (n:Nat):AV:= .int .u64 n
def w (l:List Nat):AV:= .vsl true l.length (l.map u)
def v0:AV:= .str [49]
def v1:AV:= .str [50]
def v2:AV:= .str [48]
def v3:AV:= .str [45,50,47,51]
def v4:AV:= .str [45,49,47,51]
def v5:AV:= .str [52]
def v6:AV:= .str [51]
def v7:AV:= .agg [j (-5),.nils]
def v8:AV:= .agg [j 2,.nils]
def v9:AV:= .agg [j 1,.nils]
def v10:AV:= .agg [j 0,.nils]
def v11:AV:= .agg [j (-3),.nils]
def v12:AV:= .str [45,51]
def v13:AV:= .agg [j 500,.nils]
def v14:AV:= .agg [j (-6),.nils]
def v15:AV:= .str [45,54]
def v16:AV:= .agg [j 707,.nils]
def v17:AV:= .agg [j 8,.nils]
def v18:AV:= .str [56]
def v19:AV:= .agg [j 4,.nils]
def v20:AV:= .agg [j 200,.nils]
def v21:AV:= .agg [j 3,.nils]
def v22:AV:= .agg [j (-1),.nils]
def v23:AV:= .str [45,49]
def v24:AV:= .agg [j 11184811,.nils]
def v25:AV:= .agg [j (-2),.nils]
def v26:AV:= .str [45,50]
def v27:AV:= .agg [j 6,.nils]
def v28:AV:= .agg [j 5,.nils]
def v29:AV:= .str [53]
def v30:AV:= .agg [j 177,.nils]
def v31:AV:= .agg [j 1000,.nils]
def v32:AV:= .agg [j 283,.nils]
def v33:AV:= .agg [j 250,.nils]
def v34:AV:= .agg [j (-177),.nils]
def v35:AV:= .agg [j 33554432,.nils]
def v36:AV:= .agg [j (-707),.nils]
def v37:AV:= .agg [j 10,.nils]
def v38:AV:= .agg [j (-4),.nils]
def v39:AV:= .agg [j 1000000,.nils]
def v40:AV:= .agg [j 2000000,.nils]
def v41:AV:= .agg [j 16,.nils]
def v42:AV:= .agg [j 100,.nils]
def v43:AV:= .agg [j 256,.nils]
def v44:AV:= .agg [j 2048,.nils]
def v45:AV:= .vsl false 3 [u 13782813920216018380,u 14771817424140671491,u 1846462208439]
def v46:AV:= .agg [j 10000000000000000,.nils]
def v47:AV:= .agg [j 1000000000000000000,.nils]
def v48:AV:= .agg [j 100000000,.nils]
def v49:AV:= .agg [j 1000000000000000,.nils]
def v50:AV:= .agg [j 314159265358979323,.nils]
def v51:AV:=w [12841816680275005770,13161652337898601986,90638001705]
def v52:AV:= .agg [j 10000,.nils]
def v53:AV:=w [6399444481559475388,10948563002861]
def v54:AV:=w [8838169010550242411,11648284440560156239,7232]
def v55:AV:= .vsl false 2 [u 8517096806125780797,u 2113149700393599948]
def v56:AV:=w [5782533995252789348,6903900930993065827,95800405]
def v57:AV:= .agg [j 210924120762378,.nils]
def v58:AV:= .agg [j 131157864828,.nils]
def v59:AV:= .agg [j 378770245945430644,.nils]
def v60:AV:= .agg [j 91810290,.nils]
def v61:AV:= .agg [j 166995380103,.nils]
def v62:AV:=w [17141642983857435610,23729635]
def v63:AV:= .agg [j 268556931493155,.nils]
def v64:AV:= .agg [j 297485455515141020,.nils]
def v65:AV:= .agg [j 35300,.nils]
def v66:AV:= .agg [j 72107633,.nils]
def v67:AV:= .agg [j 44946,.nils]
def v68:AV:= .agg [j 12,.nils]
def v69:AV:= .agg [j 32,.nils]
def v70:AV:= .agg [j 14,.nils]
def v71:AV:= .agg [j 19,.nils]
def v72:AV:= .agg [j 11,.nils]
def v73:AV:= .agg [j (-15),.nils]
def v74:AV:= .agg [j 16777217,.nils]
def v75:AV:= .agg [j 65536,.nils]
def v76:AV:= .agg [j 16777216,.nils]
def v77:AV:= .agg [j (-4),.nils,j 1,.nils]
def v78:AV:= .agg [j (-2),.nils,j 1,.nils]
def v79:AV:= .agg [j 1,.nils,j 1,.nils]
def v80:AV:= .agg [j 3,.nils,j 1,.nils]
def v81:AV:= .agg [j (-6),.nils,j 1,.nils]
def v82:AV:= .agg [j 8,.nils,j 1,.nils]
def v83:AV:= .agg [j 5,.nils,j 1,.nils]
def v84:AV:= .agg [j 2,.nils,j 1,.nils]
def v85:AV:= .agg [j (-1),.nils,j 1,.nils]
def v86:AV:= .agg [j 2000000,.nils,j 1,.nils]
def v87:AV:= .agg [j 4,.nils,j 1,.nils]
def v88:AV:= .agg [j 11,.nils,j 1,.nils]
def v89:AV:= .agg [j 6,.nils,j 1,.nils]
def v90:AV:= .agg [j (-15),.nils,j 1,.nils]
def v91:AV:= .agg [j (-3),.nils,j 1,.nils]
def v92:AV:= .agg [j 0,.nils,j 1,.nils]
def v93:AV:= .agg [j 1,.nils,j 4,.nils]
def v94:AV:= .agg [j (-1),.nils,j 4,.nils]
def v95:AV:= .agg [j 5,.nils,j 8,.nils]
def v96:AV:= .agg [j (-5),.nils,j 8,.nils]
def v97:AV:= .agg [j 3,.nils,j 8,.nils]
def v98:AV:= .agg [j (-3),.nils,j 8,.nils]
def v99:AV:= .agg [j (-1),.nils,j 2,.nils]
def zci:AV:= .agg [j 1,.nils,j 2,.nils]
def zIO:AV:= .agg [j 8388608,.nils,j 1,.nils]
def zOe:AV:= .agg [j (-8388608),.nils,j 1,.nils]
def zHT:AV:= .agg [j 11184810,.nils,j 1,.nils]
def zOg:AV:= .agg [j (-11184810),.nils,j 1,.nils]
def zc6:AV:= .agg [j 1,.nils,j 8,.nils]
def zul:AV:= .agg [j (-5),.nils,j 2,.nils]
def zC6:AV:= .agg [j 707,.nils,j 500,.nils]
def zpa:AV:= .agg [j (-1),.nils,j 3,.nils]
def zBi:AV:= .agg [j 283,.nils,j 200,.nils]
def zBF:AV:= .agg [j (-707),.nils,j 1000,.nils]
def zB5:AV:= .agg [j 707,.nils,j 1000,.nils]
def zh4:AV:= .agg [j (-2),.nils,j 3,.nils]
def zBS:AV:= .agg [j (-177),.nils,j 250,.nils]
def zB7:AV:= .agg [j 177,.nils,j 250,.nils]
def zuU:AV:= .agg [j 16777217,.nils,j 1,.nils]
def zoe:AV:= .agg [j (-3),.nils,j 2,.nils]
def zCZ:AV:= .agg [j 1,.nils,j 3,.nils]
def zLG:AV:= .agg [j 11184811,.nils,j 1,.nils]
def zpF:AV:= .agg [j 11184810,.nils]
def zGb:AV:= .agg [j 8388608,.nils]
def zNH:AV:= .agg [j 1000000,.nils,j 1,.nils]
def zi1:AV:= .agg [j 1414,.nils]
def zJJ:AV:= .agg [j 2828,.nils]
def zEu:AV:= .agg [j 1417,.nils]
def zvi:AV:= .agg [j 1415,.nils]
def zKl:AV:= .agg [j 1512,.nils]
def zt7:AV:= .agg [j (-708),.nils]
def zmZ:AV:= .agg [j 708,.nils]
def zzz:AV:= .agg [j (-12),.nils]
def ztr:AV:= .str [49,49]
def zy7:AV:= .str [49,54,55,55,55,50,49,55]
def zuN:AV:= .agg [j 15,.nils]
def zGU:AV:= .agg [j 414,.nils]
def zIc:AV:= .agg [j 415,.nils]
def zFB:AV:= .agg [j 170,.nils]
def zJo:AV:= .agg [j 75,.nils]
def zEA:AV:= .agg [j 172,.nils]
def zKO:AV:= .agg [j 70,.nils]
def zBj:AV:= .agg [j 20,.nils]
def zA4:AV:=w [17280761535336168307,17528012411317331584,461615552109]
def zJ3:AV:= .agg [j 30,.nils]
def zBP:AV:= .agg [j 103011146151,.nils]
def zzQ:AV:= .agg [j 233644530399045067,.nils]
def zzT:AV:= .agg [j 165659417062993,.nils]
def zAe:AV:= .agg [j 56633202,.nils]
def zAT:AV:= .agg [j 27724,.nils]
def zEt:AV:= .agg [j 9,.nils]
def zwv:AV:= .agg [j 13,.nils]
def zA6:AV:= .agg [j 7,.nils]
def zDV:AV:= .agg [j 21418505775128880,.nils]
def zFy:AV:= .agg [j 10863153207246784,.nils]
def zE9:AV:= .agg [j 10555352567882096,.nils]
def zFe:AV:= .agg [j 307800639364688,.nils]
def zIb:AV:= .agg [j 90130829482704,.nils]
def zFa:AV:= .agg [j 3079557691198605696,.nils]
def zDW:AV:= .agg [j 869142387409225424,.nils]
def zLw:AV:= .agg [j 472130528970929424,.nils]
def zEC:AV:= .agg [j 397011858438296000,.nils]
def zFt:AV:= .agg [j 75118670532633424,.nils]
def zEl:AV:= .agg [j 37408150916576,.nils]
def zH6:AV:= .agg [j 15314527649552,.nils]
def zEg:AV:= .agg [j 6779095617472,.nils]
def zI0:AV:= .agg [j 1756336414608,.nils]
def zEF:AV:= .agg [j 3708163600,.nils]
def zIs:AV:= .agg [j 3314491344,.nils]
def zEY:AV:= .agg [j 393672256,.nils]
def zEe:AV:= .agg [j 1510086373648,.nils]
def zEa:AV:= .agg [j 246250040960,.nils]
def zF3:AV:= .agg [j 165113296,.nils]
def zHc:AV:= .agg [j 63445664,.nils]
def zMd:AV:= .agg [j 38221968,.nils]
def zFp:AV:= .agg [j 25223696,.nils]
def zFC:AV:= .agg [j 32586127888,.nils]
def zLe:AV:= .agg [j 18147145744,.nils]
def zIf:AV:= .agg [j 12998272,.nils]
def zJ6:AV:= .agg [j 12225424,.nils]
def zE5:AV:= .agg [j 772848,.nils]
def zLt:AV:= .agg [j 632704,.nils]
def zLZ:AV:= .agg [j 14438982144,.nils]
def zI7:AV:= .agg [j 2224,.nils]
def zIH:AV:= .agg [j 1888,.nils]
def zEo:AV:= .agg [j 336,.nils]
def zw0:AV:=w [5014872534286336000,4272233503850647016,18367099]
def zJw:AV:= .agg [j 208,.nils]
def zHj:AV:= .agg [j 128,.nils]
def zGK:AV:= .agg [j 80,.nils]
def zLL:AV:= .agg [j 140144,.nils]
def zKK:AV:= .agg [j 68016,.nils]
def zED:AV:= .agg [j 4112,.nils]
def zHU:AV:= .agg [j 72128,.nils]
def zvX:AV:=w [18064758389395912917,7182119875137284349,12987500417]
def zvo:AV:= .agg [j 48,.nils]
def zJT:AV:= .agg [j 5832619374768430096,.nils]
def zLK:AV:= .agg [j 4915396281750918896,.nils]
def zFd:AV:= .agg [j 917223093017511200,.nils]
def zEd:AV:= .agg [j 329280816663362896,.nils]
def zId:AV:= .agg [j 258661459690785408,.nils]
def zGj:AV:= .agg [j 616634671632512,.nils]
def zJd:AV:= .agg [j 211912954363632,.nils]
def zKv:AV:= .agg [j 192808762905248,.nils]
def zKf:AV:= .agg [j 331140077104,.nils]
def zGz:AV:= .agg [j 111147935888,.nils]
def zKL:AV:= .agg [j 108844205328,.nils]
def zKZ:AV:= .agg [j 19104191458384,.nils]
def zFc:AV:= .agg [j 46803388773052944,.nils]
def zHM:AV:= .agg [j 23815968199524544,.nils]
def zIj:AV:= .agg [j 22987420573528400,.nils]
def zLS:AV:= .agg [j 1766848321408,.nils]
def zKG:AV:= .agg [j 1435708244304,.nils]
def zH9:AV:= .agg [j 2303730560,.nils]
def zGu:AV:= .agg [j 70619356972577488,.nils]
def zIL:AV:= .agg [j 568869008,.nils]
def zKd:AV:= .agg [j 828547625996144,.nils]
def zyr:AV:=w [18064758389396037917,7182119875137284349,12987500417]
def zHS:AV:= .agg [j 38912,.nils]
def zGG:AV:= .agg [j 12016,.nils]
def zEV:AV:= .agg [j 2864,.nils]
def zLk:AV:= .agg [j 1805392,.nils]
def zLW:AV:= .agg [j 167664,.nils]
def zEL:AV:= .agg [j 128752,.nils]
def zKn:AV:= .agg [j 3778448,.nils]
def zIl:AV:= .agg [j 560,.nils]
def zHz:AV:= .agg [j 28254528,.nils]
def zJS:AV:= .agg [j 64,.nils]
def zDT:AV:= .agg [j 36,.nils]
def zGW:AV:= .agg [j 293,.nils]
def zGE:AV:= .agg [j 292,.nils]
def zIJ:AV:= .agg [j 124,.nils]
def zLs:AV:= .agg [j 44,.nils]
def zHw:AV:= .agg [j 121,.nils]
def zFu:AV:= .agg [j 51,.nils]
def zBE:AV:= .str [55,48,55,47,53,48,48]
def zzY:AV:= .str [50,56,51,47,50,48,48]
def zn6:AV:= .str [49,47,56]
def zih:AV:= .str [49,47,50]
def zAs:AV:= .str [45,49,55,55,47,50,53,48]
def zAZ:AV:= .str [45,55,48,55,47,49,48,48,48]
def zBu:AV:= .str [55,48,55,47,49,48,48,48]
def zCU:AV:= .str [49,55,55,47,50,53,48]
def ztu:AV:= .str [49,47,54]
def ztL:AV:= .str [49,47,52]
def zBk:AV:= .str [49,47,51]
def zvh:AV:= .str [45,53,47,50]
def zmX:AV:= .agg [j 1,.nils,j 6,.nils]
def zC1:AV:= .agg [j 11184811,.nils,j 33554432,.nils]
def zMJ:AV:= .str [49,49,49,56,52,56,49,49,47,51,51,53,53,52,52,51,50]
def zz4:AV:= .agg [j 2,.nils,j 3,.nils]
def zHl:AV:= .agg [j 16777216,.nils,j 1,.nils]
def zxC:AV:= .agg [j 33554432,.nils,j 1,.nils]
def ztE:AV:= .agg [j 16777217,.nils,j 2,.nils]
def zuk:AV:= .agg [j 33554432,.nils,j 3,.nils]
def zBR:AV:= .agg [j (-2),.nils,j 1,.nils,j (-2),.nils,j 1,.nils]
def zmg:AV:= .agg [j 2,.nils,j 1,.nils,j 2,.nils,j 1,.nils]
def zCC:AV:= .agg [j 1,.nils,j 33554432,.nils]
def zMV:AV:= .vsl false 2 [j 2,.nils,j 1,.nils,j 1,.nils,j 1,.nils]
def zKo:AV:= .vsl false 3 [j 1,.nils,j 1,.nils,j 0,.nils,j 1,.nils,j (-1),.nils,j 3,.nils]
def zA0:AV:= .vsl false 3 [j 0,.nils,j 1,.nils,j 1,.nils,j 1,.nils,j (-2),.nils,j 3,.nils]
def zOm:AV:= .vsl false 2 [j 4,.nils,j 1,.nils,j 3,.nils,j 1,.nils]
def zO1:AV:= .vsl false 2 [j 1,.nils,j 1,.nils,j 2,.nils,j 1,.nils]
def zlf:AV:= .agg [j 1,.nils,j 1,.nils,j 1,.nils,j 1,.nils]
def zGg:AV:= .agg [j 4,.nils,j 1,.nils,j 4,.nils,j 1,.nils]
def zzq:AV:= .agg [j 5,.nils,j 1,.nils,j 5,.nils,j 1,.nils]
def zyN:AV:= .agg [j 3,.nils,j 1,.nils,j 3,.nils,j 1,.nils]
def zy5:AV:= .agg [j (-1),.nils,j 1,.nils,j (-1),.nils,j 1,.nils]
def zMw:AV:= .agg [j 6,.nils,j 1,.nils,j 6,.nils,j 1,.nils]
def zNO:AV:= .vsl true 4 [j (-1),.nils,j 1,.nils,j (-1),.nils,j 1,.nils,j (-1),.nils,j 1,.nils,j (-1),.nils,j 1,.nils]
def zOH:AV:= .vsl true 4 [j (-2),.nils,j 1,.nils,j (-2),.nils,j 1,.nils,j (-2),.nils,j 1,.nils,j (-2),.nils,j 1,.nils]
def zNv:AV:= .vsl true 4 [j 1,.nils,j 1,.nils,j (-2),.nils,j 1,.nils,j (-2),.nils,j 1,.nils,j 4,.nils,j 1,.nils]
def zM9:AV:= .vsl false 4 [j 1,.nils,j 4,.nils,j 1,.nils,j 8,.nils,j 1,.nils,j 2,.nils,j 1,.nils,j 4,.nils]
def zOi:AV:= .vsl false 4 [j 3,.nils,j 1,.nils,j (-4),.nils,j 1,.nils,j (-6),.nils,j 1,.nils,j 8,.nils,j 1,.nils]
def zNI:AV:= .vsl true 4 [j 3,.nils,j 1,.nils,j 3,.nils,j 1,.nils,j 3,.nils,j 1,.nils,j 3,.nils,j 1,.nils]
def zO8:AV:= .vsl true 4 [j 4,.nils,j 1,.nils,j 4,.nils,j 1,.nils,j 4,.nils,j 1,.nils,j 4,.nils,j 1,.nils]
def zOE:AV:= .vsl true 4 [j 1,.nils,j 1,.nils,j 1,.nils,j 1,.nils,j 1,.nils,j 1,.nils,j 1,.nils,j 1,.nils]
def zOK:AV:= .vsl true 4 [j 6,.nils,j 1,.nils,j 6,.nils,j 1,.nils,j 6,.nils,j 1,.nils,j 6,.nils,j 1,.nils]
def zBU:AV:= .vsl true 3 [j 1,.nils,j 1,.nils,j 2,.nils,j 1,.nils,j 3,.nils,j 1,.nils]
def zOS:AV:= .vsl false 3 [j 3,.nils,j 1,.nils,j 4,.nils,j 1,.nils,j 11,.nils,j 1,.nils]
def zvU:AV:= .vsl false 3 [j 1,.nils,j 1,.nils,j 2,.nils,j 1,.nils,j 5,.nils,j 1,.nils]
def zOn:AV:= .vsl false 3 [j 0,.nils,j 1,.nils,j 1,.nils,j 1,.nils,j 2,.nils,j 1,.nils]
def zGI:AV:= .vsl true 3 [j 2,.nils,j 1,.nils,j 4,.nils,j 1,.nils,j 6,.nils,j 1,.nils]
def zM7:AV:= .vsl false 3 [j 1,.nils,j 1,.nils,j 2,.nils,j 1,.nils,j 3,.nils,j 1,.nils]
def zCH:AV:= .str [45,49,47,56]
def zD6:AV:= .agg [j (-1),.nils,j 8,.nils]
def zBb:AV:= .agg [j (-1),.nils,j 1,.nils,j 2,.nils,j 1,.nils]
def zOF:AV:= .vsl true 3 [j (-3),.nils,j 1,.nils,j 0,.nils,j 1,.nils,j 1,.nils,j 1,.nils]
def zNY:AV:= .vsl false 3 [j 1,.nils,j 1,.nils,j (-1),.nils,j 2,.nils,j 0,.nils,j 1,.nils]
def zKr:AV:= .vsl true 3 [j (-2),.nils,j 1,.nils,j 1,.nils,j 1,.nils,j 0,.nils,j 1,.nils]
def zOB:AV:= .vsl false 3 [j 0,.nils,j 1,.nils,j (-3),.nils,j 2,.nils,j 1,.nils,j 1,.nils]
def zNq:AV:= .vsl false 3 [j 0,.nils,j 1,.nils,j (-2),.nils,j 1,.nils,j (-4),.nils,j 1,.nils]
def znG:AV:= .vsl true 2 [v0,v1]
def zua:AV:= .vsl true 2 [v1,v0]
def ztB:AV:= .vsl true 3 [v2,v0,v3]
def zuV:AV:= .vsl true 3 [v0,v2,v4]
def ztv:AV:= .vsl true 2 [v5,v6]
def zmS:AV:= .agg [j 1,v45]
def zJX:AV:= .agg [j 1,.vsl false 3 [u 8640380767668084153,u 17987378242513441600,u 230807776054]]
def zbk:AV:= .agg [j 1,w [8640380767668084153,17987378242513441600,230807776054]]
def zFR:AV:= .agg [j 1,w [16216789405050171313,13990962461900849178,13001944405576862530,2721289870473684565,16479346644060571776,2887]]
def zFb:AV:= .agg [j 1,w [9632337040368467968,5421010862427]]
def zKJ:AV:= .agg [j 1,.vsl false 3 [u 16114778996962784998,u 16609280748925111553,u 923231104219]]
def zNV:AV:= .agg [j 1,w [16616825203528040448,17030607900432772]]
def zac:AV:= .agg [j 1,w [13070572018536022016,10549268516463523069,293873587705]]
def zH8:AV:= .agg [j 1,w [7585187672398757888,569008837486978856,2854786896515372131,13854840613988277292,18078004663405200202,3676]]
def zHh:AV:= .agg [j 1,w [16800268943940132986,10498901635650969125,15552186833516458699,617515930402880608,1347820176139651620,1134]]
def zOQ:AV:= .agg [j 1,.vsl false 2 [u 17463089541855990736,u 17030607900432772]]
def zOp:AV:= .agg [j 1,w [16114359280022847488,16609280748925111553,923231104219]]
def zJD:AV:= .agg [j 1,.vsl false 2 [u 15956439711762054671,u 1659663893673001552]]
def zDU:AV:= .agg [j 1,w [12234476317405662167,11692049235685359344,15353889696288128096,15111976797126571406,20765904853]]
def zIT:AV:= .agg [j 1,.vsl false 3 [u 2023799238178458475,u 7999906463597924033,u 75241462]]
def zEG:AV:= .agg [j 1,.vsl false 5 [u 8068274122100154195,u 10164474085895960830,u 8661451129107458488,u 11709122817828559434,u 17366314611440665278]]
def zIF:AV:= .agg [j 1,w [5057613930186074076,12163321890431987431,9297356646049816308,12453774809672462324,136989]]
def zLz:AV:= .agg [j 1,.vsl false 5 [u 16600421415523125331,u 6593959610220467789,u 9621704098130034456,u 15503065397907737844,u 1669347581099524]]
def zKM:AV:= .agg [j 1,w [3597362798407890137,9139644163598633729,5680]]
def zKt:AV:= .agg [j 1,.vsl false 5 [u 724442254058341841,u 12242707536774606347,u 15727830659569986504,u 12988536605132093096,u 1311102524267539]]
def zzU:AV:= .agg [j 1,w [11635806404526227817,5431237391449305]]
def zGV:AV:= .agg [j 1,w [11628999839319665121,7983186536062692438,6928779995928134897,13333596706826726224,67956264]]
def zHX:AV:= .agg [j 1,w [17862480628081892373,5412527530760177011,9289918553171977696,1669267044269566458,26439971242]]
def zEy:AV:= .agg [j 1,.vsl false 3 [u 12004326465849222656,u 12583738487651288622,u 71186920073]]
def zF4:AV:= .agg [j 1,w [5415264564868724224,2702429455317848186,3257820634772804819,2921037779272485671,12892480808343775952,890]]
def zEW:AV:= .agg [j 1,w [3357387301995924548,10998580160438829665,17305001410530887765,13223409123470817412,3664734435888764724,1]]
def zCI:AV:= .agg [j 1,w [6941760015582258140,11976423673148936281,4659173023]]
def zG1:AV:= .agg [j 1,w [9499324417185814012,2579272376208973014,10473475704207649438,8359000212588520640,5462207568661732176,58]]
def zJf:AV:= .agg [j 1,.vsl false 3 [u 7618611272510715734,u 13374841863731521290,u 3659305935]]
def zIB:AV:= .agg [j 1,w [3674031232874724134,12529952070501274096,329920358137583042,5544844341389442335,14492781612538992981,45]]
def zBZ:AV:= .agg [j 1,w [13621876266353651619,14736531200132615338,33]]
def zGo:AV:= .agg [j 1,.vsl false 5 [u 17292431025786201035,u 11946252089032414340,u 13964961894145495040,u 13986844084537750418,u 7801041777162]]
def zHm:AV:= .agg [j 1,w [16370927238490033171,10063982856075116439,26]]
def zHx:AV:= .agg [j 1,.vsl false 5 [u 11009532767374467259,u 8124201305943929203,u 16104677368926751221,u 7314726601207293494,u 6126923884370]]
def zLo:AV:= .agg [j 1,.vsl false 2 [u 12366545110363778517,u 4265683872219832]]
def zEs:AV:= .agg [j 1,w [13230967557627232237,3500369219144259201,2487962285782537470,9309154521224901510,53372725]]
def zJ0:AV:= .agg [j 1,w [4021442947409540411,9486481206710503630,828798]]
def zE6:AV:= .agg [j 1,.vsl false 5 [u 14550886082860770979,u 14470342835219398496,u 12822340539202483276,u 829795195913251750,u 191293141874751367]]
def zCq:AV:= .agg [j 1,w [6615404896634909228,792797273462150915,1055259]]
def zEE:AV:= .agg [j 1,.vsl false 5 [u 14189355548283026892,u 14716625746279442152,u 12318077660473956507,u 13146092726962069828,u 243561992871567315]]
def zLP:AV:= .agg [j 1,w [14104395762648518710,19]]
def zFA:AV:= .agg [j 1,.vsl false 4 [u 6557673277525087494,u 15976676401898429601,u 8523590972869011769,u 4561823561349]]
def zD2:AV:= .agg [j 1,w [17533984222864527674,12353584992072517549,14264124144876419712,2639106]]
def zJF:AV:= .agg [j 1,w [17236632546876903068,11135480475144698162,1148068112344762910,1641]]
def zFP:AV:= .agg [j 1,w [1882113692433447380,6589440540014481872,11201623559418453978,4739216728]]
def zGk:AV:= .agg [j 1,w [13944175567244065250,4096355134818525490,2743784780152768049,1]]
def zGm:AV:= .agg [j 1,.vsl false 2 [u 8262468237226232984,u 13958642011]]
def zFG:AV:= .agg [j 1,w [10141935774598533592,8309989412897469218,9297645483805615959,12029650584374213082,174]]
def zFv:AV:= .agg [j 1,w [16079647657453681551,9047855698823632873,8583923049414943528,2089]]
def zEx:AV:= .agg [j 1,.vsl false 2 [u 10209694078816097337,u 8598981274288]]
def zJq:AV:= .agg [j 1,w [4511974855030608433,637104959086601153,12451904279572219604,8102622432476352004,107591]]
def zGT:AV:= .agg [j 1,.vsl false 4 [u 17876293434389998218,u 17941419946077638974,u 11792391544926169901,u 5476984495424500642]]
def zH2:AV:= .agg [j 1,w [13956796289713155025,20826]]
def zJz:AV:= .agg [j 1,.vsl false 4 [u 6113462245698230025,u 11899689605548549250,u 7204198040994281268,u 4806977373155694]]
def zBJ:AV:= .agg [j 1,w [14334071515131066545,17772694999]]
def zII:AV:= .agg [j 1,w [15852820823071556841,16643281740854508204,6733274196778773178,6899023038396955358,222]]
def zD9:AV:= .agg [j 1,w [18173646507131229515,13627204094284174079,1964443467344395986,3360215]]
def zGA:AV:= .agg [j 1,w [8797682231043936192,18637212]]
def zEh:AV:= .agg [j 1,.vsl false 4 [u 5361003646381842880,u 16435824858651011218,u 7726429105647848976,u 4301613563662702939]]
def zFQ:AV:= .agg [j 1,w [3045029095724553698,25]]
def zFS:AV:= .agg [j 1,.vsl false 4 [u 11025444859222714962,u 2417956740003135128,u 13421244786285755757,u 5808294154414]]
def zAi:AV:= .agg [j 1,w [8302713205355927860,26517]]
def zEp:AV:= .agg [j 1,.vsl false 4 [u 4244187385348643476,u 4734386098559386715,u 10417457931255205964,u 6120433682148984]]
def zEv:AV:= .agg [j 1,w [494431295515953084,10681898006951248689,10894471581772944298,3722172114]]
def zLA:AV:= .agg [j 1,.vsl false 3 [u 6974583969644181956,u 17520943641721873814,u 8147514494740620]]
def zLn:AV:= .agg [j 1,.vsl false 3 [u 7791533900303611049,u 2546863062074383501,u 16643002409318332171]]
def zhW:AV:= .agg [j 1,w [6450984253743169536,13015503840481697412,293873587]]
def zKP:AV:= .agg [j 1,.vsl false 3 [u 9697743876229720706,u 13696713614337051836,u 10373886302566910]]
def zKE:AV:= .agg [j 1,.vsl false 3 [u 10284866305095868446,u 12015622436964011398,u 3231308864769]]
def zJP:AV:= .agg [j 1,.vsl false 3 [u 16593281996017185979,u 9718793280983461320,u 4385347745044]]
def zON:AV:= .agg [j 1,w [228755338261016246,15834360252274472699,203235585999]]
def zN6:AV:= .agg [j 1,w [11956471268774780203,4233453559939239903,207800006678]]
def zNK:AV:= .agg [j 1,.vsl false 3 [u 12335241514720210847,u 4233453559939239903,u 207800006678]]
def zN1:AV:= .agg [j 1,w [6698787159143406041,4233453559939213411,207800006678]]
def zOl:AV:= .agg [j 1,.vsl false 3 [u 15001500364499333901,u 4233453559939239928,u 207800006678]]
def zNM:AV:= .agg [j 1,.vsl false 3 [u 8003386255225394266,u 3252936194182942452,u 207800013877]]
def zOa:AV:= .agg [j 1,w [17611961318384703471,10051395827332337828,207800006644]]
def zMI:AV:= .agg [j 1,.vsl false 3 [u 15905803109429250494,u 4233464490753250908,u 207800006678]]
def zOC:AV:= .agg [j 1,w [9506358627869775106,4233453542190248047,207800006678]]
def zPf:AV:= .agg [j 1,.vsl false 3 [u 12787093511028803474,u 6341182953755401551,u 207800006678]]
def zOG:AV:= .agg [j 1,w [4269996704903022677,4228033253361801603,207800006678]]
def zNd:AV:= .agg [j 1,.vsl false 3 [u 7170515353843274386,u 9364039851713857364,u 207894759023]]
def zNr:AV:= .agg [j 1,w [1387981358590485038,2460138920720791537,207798958618]]
def zOL:AV:= .agg [j 1,.vsl false 3 [u 5393686069291290035,u 4233453559962943047,u 207800006678]]
def zNm:AV:= .agg [j 1,.vsl false 3 [u 12334973124784097795,u 4233453559939239903,u 207800006678]]
def zM6:AV:= .agg [j 1,w [12334973124692287505,4233453559939239903,207800006678]]
def zOM:AV:= .agg [j 1,w [12334972957788717692,4233453559939239903,207800006678]]
def zzO:AV:= .agg [j 1,.vsl false 3 [u 12334973124692332432,u 4233453559939239903,u 207800006678]]
def zuL:AV:= .agg [j 1,.vsl false 3 [u 12334973124693332432,u 4233453559939239903,u 207800006678]]
def ztt:AV:= .agg [j 1,w [12334973124691332432,4233453559939239903,207800006678]]
def zOY:AV:= .agg [j 1,w [12334973124692332432,4233453559939239903,207800006678]]
def zNX:AV:= .agg [j 1,.vsl false 3 [u 12334973124692332451,u 4233453559939239903,u 207800006678]]
def zwm:AV:= .tup [v8,v10]
def zuI:AV:= .tup [v9,v10]
def zuu:AV:= .tup [v10,v9]
def zzb:AV:= .tup [v10,v8]
def zBp:AV:= .tup [v21,v10]
def zBl:AV:= .agg [j 1,.vsl false 3 [u 9514143892148891222,u 14589875561820374064,u 55910076283]]
def zBX:AV:= .agg [j 1,.vsl false 3 [u 7236889286840459925,u 7876560602087652357,u 181276003411]]
def zB6:AV:= .agg [j 1,w [2225215780011097513,15327931522679171057,650936]]
def zC2:AV:= .agg [j 1,.vsl false 3 [u 7455323194197715914,u 4202843118986907043,u 2874012161]]
def zCo:AV:= .agg [j 1,w [585116523289769433,15658363997444158300,20]]
def zCk:AV:= .agg [j 1,w [1527792737363884452,7503159166461348028,59094506]]
def zzK:AV:= .agg [j 1,.vsl false 2 [u 7135181956152382277,u 1303496973947833351]]
def zA7:AV:= .agg [j 1,w [8753492008855507006,8313990678002305033,4461]]
def zAw:AV:= .agg [j 1,w [8305159076503378217,14637632]]
def zCG:AV:= .agg [j 1,.vsl false 2 [u 2875139543986997541,u 3350260278875572]]
def zCV:AV:= .agg [j 1,.vsl false 2 [u 5157674005487560540,u 6753624099915]]
def zC0:AV:= .agg [j 1,.vsl false 2 [u 5785850920737608665,u 10963091799]]
def zB4:AV:= .agg [j 1,w [5467296334037880926,16357]]
def zz5:AV:= .agg [j 1,w [9649144829102292634,15]]
def zIA:AV:= .agg [j 1,.vsl false 3 [u 349704605168908272,u 17270539680539398753,u 77094]]
def zKB:AV:= .agg [j 1,.vsl false 3 [u 9267470765430408848,u 17447578655697668941,u 33219]]
def zKW:AV:= .agg [j 1,.vsl false 3 [u 261507148017642192,u 822126442853612486,u 10655]]
def zLv:AV:= .agg [j 1,.vsl false 3 [u 7834891934529719632,u 7197531120445425756,u 31380170]]
def zIv:AV:= .agg [j 1,.vsl false 3 [u 9723933137813899312,u 3577955977601520452,u 11452054]]
def zIM:AV:= .agg [j 1,.vsl false 3 [u 6833769732611472624,u 41619165242384851,u 8476062]]
def zGZ:AV:= .agg [j 1,.vsl false 3 [u 1053442922206619248,u 11415689614233665265,u 2524077]]
def zJl:AV:= .agg [j 1,.vsl false 3 [u 1836720482995807440,u 10567391271835021952,u 451914]]
def zLD:AV:= .agg [j 1,.vsl false 3 [u 10316584580937133664,u 13918965476187210352,u 264504]]
def zFO:AV:= .agg [j 1,.vsl false 3 [u 2890163405202426688,u 3536336812359135601,u 2975992]]
def zL2:AV:= .agg [j 1,.vsl false 3 [u 9966879975768225392,u 15095169869357363215,u 187409]]
def zIy:AV:= .agg [j 1,.vsl false 3 [u 16893689183768430832,u 12684534469197727453,u 3]]
def zKj:AV:= .agg [j 1,.vsl false 3 [u 7441730033706885616,u 1715340864178252272,u 1]]
def zD8:AV:= .agg [j 1,.vsl false 2 [u 13015243156357325600,u 7538511876662970636]]
def zFW:AV:= .agg [j 1,.vsl false 2 [u 3833049185714940912,u 40786512933943980]]
def zLa:AV:= .agg [j 1,.vsl false 2 [u 13551512549659598096,u 15013748623870650]]
def zJj:AV:= .agg [j 1,.vsl false 2 [u 13623512233814847952,u 10759015686202678]]
def zEN:AV:= .agg [j 1,.vsl false 3 [u 14559915651415052928,u 13228462717394739238,u 21]]
def zEc:AV:= .agg [j 1,.vsl false 3 [u 4335620253824644048,u 8637665728864155564,u 8]]
def zDP:AV:= .agg [j 1,.vsl false 3 [u 5888675143765764832,u 14399875333375979726,u 4]]
def zIP:AV:= .agg [j 1,.vsl false 3 [u 8482949321377482272,u 14981199327136831483,u 1254]]
def zD3:AV:= .agg [j 1,.vsl false 3 [u 6184888871835990480,u 10099740341725821930,u 616]]
def zIa:AV:= .agg [j 1,.vsl false 2 [u 18304731868411337648,u 5085061184561862614]]
def zKz:AV:= .agg [j 1,.vsl false 2 [u 13157255361655539568,u 2453450692101108021]]
def zFl:AV:= .agg [j 1,.vsl false 2 [u 10436965218809810128,u 178159800359646571]]
def zEO:AV:= .agg [j 1,.vsl false 2 [u 6603916033094869216,u 137373287425702591]]
def zJg:AV:= .agg [j 1,.vsl false 2 [u 18374744389554301760,u 4254732937667971]]
def zJL:AV:= .agg [j 1,.vsl false 2 [u 7916510896190665120,u 5581036710]]
def zH4:AV:= .agg [j 1,.vsl false 2 [u 16347454578296750992,u 3577109470]]
def zJQ:AV:= .agg [j 1,.vsl false 2 [u 10015800391603465744,u 2003927239]]
def zHu:AV:= .agg [j 1,.vsl false 2 [u 16399614008783666512,u 6881587320788]]
def zLd:AV:= .agg [j 1,.vsl false 2 [u 995144945467656128,u 2078543031735]]
def zEj:AV:= .agg [j 1,.vsl false 2 [u 13414179172380698128,u 645958225583]]
def zLm:AV:= .agg [j 1,.vsl false 2 [u 5111978564696012016,u 50249654277257]]
def zIQ:AV:= .agg [j 1,.vsl false 2 [u 7159108629621897120,u 43368066956468]]
def zJn:AV:= .agg [j 1,.vsl false 2 [u 13767511602125347664,u 2249549810866734]]
def zHV:AV:= .agg [j 1,.vsl false 2 [u 4607232787428954096,u 2005183126801237]]
def zK0:AV:= .agg [j 1,.vsl false 2 [u 9160278814696393568,u 244366684065497]]
def zGq:AV:= .agg [j 1,.vsl false 2 [u 11709786853761729984,u 57383549335]]
def zGH:AV:= .agg [j 1,.vsl false 2 [u 11120010015640308240,u 25901256312]]
def zL8:AV:= .agg [j 1,.vsl false 2 [u 4383052795692486608,u 83284805648]]
def zFN:AV:= .agg [j 1,.vsl false 2 [u 16092839649454216592,u 140668354983]]
def zL3:AV:= .agg [j 1,.vsl false 2 [u 6331654186693285248,u 1573182231]]
def zG6:AV:= .agg [j 1,.vsl false 2 [u 3684146204910180496,u 430745008]]
def zIo:AV:= .agg [j 1,.vsl false 2 [u 9170180249816038160,u 281199]]
def zD5:AV:= .agg [j 1,.vsl false 2 [u 2286845318953838880,u 48233]]
def zEP:AV:= .agg [j 1,.vsl false 2 [u 16182697728756395376,u 40033]]
def zG7:AV:= .agg [j 1,.vsl false 2 [u 3083901620222578096,u 18648396]]
def zEr:AV:= .agg [j 1,.vsl false 2 [u 2180461744876363584,u 610632]]
def zHO:AV:= .agg [j 1,.vsl false 2 [u 11457025568769877040,u 329432]]
def zFI:AV:= .agg [j 1,.vsl false 2 [u 5321029012724858640,u 131149405]]
def zGC:AV:= .agg [j 1,.vsl false 2 [u 8404930632947436736,u 149797801]]
def zKb:AV:= .agg [j 1,.vsl false 2 [u 4550891663906995120,u 8199]]
def zFL:AV:= .agg [j 1,.vsl false 2 [u 16425875146837966512,u 7236]]
def zE3:AV:= .agg [j 1,.vsl false 2 [u 6571760590778580224,u 962]]
def zJi:AV:= .agg [j 1,.vsl false 2 [u 7317039158807008176,u 500]]
def zD7:AV:= .agg [j 1,.vsl false 2 [u 13725959645672295376,u 280947206]]
def zJ2:AV:= .agg [j 1,.vsl false 2 [u 17701465505681123664,u 461]]
def zMg:AV:= .agg [j 1,.vsl false 2 [u 8062317726835436128,u 38]]
def zLb:AV:= .agg [j 1,.vsl false 1 [u 13187373152203648208]]
def zL1:AV:= .agg [j 1,w [10107815461005042512]]
def zA5:AV:= .agg [j 1,zw0]
def zHo:AV:= .agg [j 1,.vsl false 3 [u 9267470758912408848,u 17447578655697668941,u 33219]]
def zGi:AV:= .agg [j 1,.vsl false 3 [u 261507163619642192,u 822126442853612486,u 10655]]
def zEm:AV:= .agg [j 1,.vsl false 3 [u 8482949268053482272,u 14981199327136831483,u 1254]]
def zKu:AV:= .agg [j 1,.vsl false 3 [u 10316584582117133664,u 13918965476187210352,u 264504]]
def zHC:AV:= .agg [j 1,.vsl false 3 [u 9966879974382225392,u 15095169869357363215,u 187409]]
def zHq:AV:= .agg [j 1,.vsl false 3 [u 349704607734908272,u 17270539680539398753,u 77094]]
def zJK:AV:= .agg [j 1,.vsl false 3 [u 1836720482789807440,u 10567391271835021952,u 451914]]
def zKS:AV:= .agg [j 1,.vsl false 3 [u 6833769732649472624,u 41619165242384851,u 8476062]]
def zLr:AV:= .agg [j 1,.vsl false 3 [u 2890163405146426688,u 3536336812359135601,u 2975992]]
def zGQ:AV:= .agg [j 1,.vsl false 3 [u 1053442922356619248,u 11415689614233665265,u 2524077]]
def zIx:AV:= .agg [j 1,.vsl false 3 [u 6184889314029990480,u 10099740341725821930,u 616]]
def zLN:AV:= .agg [j 1,.vsl false 3 [u 7834891934531719632,u 7197531120445425756,u 31380170]]
def zJm:AV:= .agg [j 1,.vsl false 3 [u 9723933137795899312,u 3577955977601520452,u 11452054]]
def zKR:AV:= .agg [j 1,.vsl false 3 [u 14559914713703052928,u 13228462717394739238,u 21]]
def zKa:AV:= .agg [j 1,.vsl false 3 [u 4335646951954644048,u 8637665728864155564,u 8]]
def zKg:AV:= .agg [j 1,.vsl false 3 [u 5888620809793764832,u 14399875333375979726,u 4]]
def zGh:AV:= .agg [j 1,.vsl false 3 [u 16893770215870430832,u 12684534469197727453,u 3]]
def zER:AV:= .agg [j 1,.vsl false 2 [u 6661453620722869216,u 137373287425702591]]
def zKQ:AV:= .agg [j 1,.vsl false 2 [u 3771208457272940912,u 40786512933943980]]
def zHA:AV:= .agg [j 1,.vsl false 2 [u 13794572322613598096,u 15013748623870650]]
def zEU:AV:= .agg [j 1,.vsl false 2 [u 10432662077995810128,u 178159800359646571]]
def zIe:AV:= .agg [j 1,.vsl false 2 [u 13075551959464847952,u 10759015686202678]]
def zFj:AV:= .agg [j 1,.vsl false 2 [u 719020363148750144,u 4254732937667972]]
def zI4:AV:= .agg [j 1,.vsl false 2 [u 11637511233167347664,u 2249549810866734]]
def zG0:AV:= .agg [j 1,.vsl false 2 [u 13015730286681325600,u 7538511876662970636]]
def zGx:AV:= .agg [j 1,.vsl false 2 [u 18303622241689337648,u 5085061184561862614]]
def zGY:AV:= .agg [j 1,.vsl false 2 [u 13158852118701539568,u 2453450692101108021]]
def zKU:AV:= .agg [j 1,.vsl false 3 [u 7441594667632885616,u 1715340864178252272,u 1]]
def zID:AV:= .agg [j 1,.vsl false 2 [u 7528253203690954096,u 2005183126801237]]
def zIC:AV:= .agg [j 1,.vsl false 2 [u 4109258029476393568,u 244366684065497]]
def zIG:AV:= .agg [j 1,.vsl false 2 [u 11547677115298908784,u 50249654277259]]
def zJu:AV:= .agg [j 1,.vsl false 2 [u 13258781789409413280,u 43368066956458]]
def zEM:AV:= .agg [j 1,.vsl false 2 [u 16735639399599047120,u 6881587320800]]
def zKp:AV:= .agg [j 1,.vsl false 2 [u 14569274984651841296,u 430427458]]
def zFh:AV:= .agg [j 1,.vsl false 2 [u 10013737208167830608,u 282104579]]
def zK4:AV:= .agg [j 1,.vsl false 2 [u 4555537776484010688,u 148322879]]
def zLh:AV:= .agg [j 1,.vsl false 2 [u 5078665760362888640,u 2078543031653]]
def zJ7:AV:= .agg [j 1,.vsl false 2 [u 1499642118510381200,u 645958225841]]
def zFD:AV:= .agg [j 1,.vsl false 2 [u 11331934866641240592,u 3577201370]]
def zKY:AV:= .agg [j 1,.vsl false 2 [u 12950604925646540944,u 2003814414]]
def zGJ:AV:= .agg [j 1,.vsl false 2 [u 16828074014704251264,u 1573386955]]
def zHR:AV:= .agg [j 1,.vsl false 2 [u 579739404831745040,u 140668354130]]
def zKF:AV:= .agg [j 1,.vsl false 2 [u 17627428572892952656,u 83284809320]]
def zGr:AV:= .agg [j 1,.vsl false 2 [u 1399054905648344000,u 57383544809]]
def zH3:AV:= .agg [j 1,.vsl false 2 [u 16228373667244608656,u 25901264511]]
def zFk:AV:= .agg [j 1,.vsl false 2 [u 5835795718578229920,u 5581015785]]
def zH7:AV:= .agg [j 1,.vsl false 2 [u 5458199431683819920,u 133781700]]
def zKw:AV:= .agg [j 1,.vsl false 2 [u 17544082418509742384,u 14541178]]
def zGs:AV:= .agg [j 1,.vsl false 2 [u 13582154328482103008,u 2911089]]
def zDQ:AV:= .agg [j 1,.vsl false 2 [u 11931193853426722832,u 2]]
def zLM:AV:= .agg [j 1,.vsl false 2 [u 1183178196907373840,u 2]]
def zFY:AV:= .agg [j 1,.vsl false 1 [u 10748015656519348992]]
def zF5:AV:= .agg [j 1,.vsl false 2 [u 6765365049588146096,u 27]]
def zMf:AV:= .agg [j 1,.vsl false 2 [u 83271609768439104,u 10]]
def zJV:AV:= .agg [j 1,.vsl false 2 [u 6598821830051267888,u 7]]
def zKc:AV:= .agg [j 1,.vsl false 2 [u 108953252000433584,u 2896820]]
def zD4:AV:= .agg [j 1,.vsl false 2 [u 13473201076481669424,u 14269]]
def zEn:AV:= .agg [j 1,.vsl false 2 [u 13614001708944731296,u 64]]
def zxB:AV:= .tup [v10,v10]
def zps:AV:= .agg [v23,v1]
def zvm:AV:= .agg [v0,v1]
def zwH:AV:= .agg [v12,v5]
def zz1:AV:= .agg [v5,v18]
def zx5:AV:= .agg [v0,v0]
def zI6:AV:= .agg [j 1,zA4,j 2,.nils]
def zIg:AV:= .agg [v6,v6,v23,v23]
def zyx:AV:= .agg [v0,v0,v1,v1]
def zBH:AV:= .vsl true 2 [v6,v5]
def zAJ:AV:= .vsl true 3 [v1,v5,.str [54]]
def zAH:AV:= .vsl true 2 [v2,v0]
def zAC:AV:= .vsl true 2 [v0,v2]
def zzN:AV:= .vsl true 3 [v0,v1,v6]
def zCb:AV:= .tup [.agg [v15,v18],j 0]
def zKx:AV:= .tup [.agg [zn6,zih],j 0]
def zGy:AV:= .tup [.agg [zBE,zzY],j 0]
def zHb:AV:= .tup [.agg [zBu,zCU],j 0]
def zDO:AV:= .tup [.agg [zAs,zAZ],j 0]
def znE:AV:= .vsl true 2 [znG,zBH]
def zpj:AV:= .vsl true 2 [zAH,zAC]
def zol:AV:= .vsl true 2 [zzN,zAJ]
def zNc:AV:= .tup [.agg [v0,v0,v26,v26],j 0]
def zN0:AV:= .tup [.agg [v29,v29,v29,v29],j 0]
def zO7:AV:= .tup [.agg [zih,zih],j 0]
def zDw:zE:=[.m 55467 [znG,znG] (.bool true) (.m 51820 [zua,zua] (.bool true) (.o 38327 [ztB,ztB] (.bool true))
 (.l))
 (.m 63514 [zuV,zuV] (.bool true) (.o 60170 [ztv,ztv] (.bool true))
 (.l))]
def zDt:zE:=[.o 31699 [.vsl false 3 [j 0,j 2,j 1],.vsl true 3 [j 0,j 2,j 1]] (.bool true)]
def zDm:zE:=[.m 28700 [v7] (.str [45,53]) (.m 28694 [v8] (v1) (.m 28693 [v9] (v0) (.o 28692 [v10] (v2))
 (.l))
 (.o 28696 [v11] (v12)))
 (.m 29192 [v13] (.str [53,48,48]) (.o 28702 [v14] (v15))
 (.o 29399 [v16] (.str [55,48,55]))),
 .m 28700 [v17] (v18) (.o 28696 [v19] (v5))
 (.l)]
def k0:List (Nat×zE):=[(29,zDw),(59,zDt),(99,zDm)]
def zDj:zE:=[.m 28892 [v20] (.str [50,48,48]) (.m 28695 [v21] (v6) (.m 28692 [v22] (v23) (.o 9412 [v24] (.str [49,49,49,56,52,56,49,49]))
 (.o 28694 [v25] (v26)))
 (.m 28698 [v27] (.str [54]) (.o 28697 [v28] (v29))
 (.o 28869 [v30] (.str [49,55,55]))))
 (.m 29692 [v31] (.str [49,48,48,48]) (.m 28975 [v32] (.str [50,56,51]) (.o 28942 [v33] (.str [50,53,48]))
 (.o 29044 [v34] (.str [45,49,55,55])))
 (.m 36372 [v35] (.str [51,51,53,53,52,52,51,50]) (.o 30104 [v36] (.str [45,55,48,55]))
 (.l)))]
def zvK:zE:=[.m 40563 [v9,v37] (v37) (.o 40562 [v10,v37] (v10))
 (.l)]
def k1:List (Nat×zE):=[(99,zDj),(100,zvK)]
def zy2:zE:=[.m 38203 [v17,v9] (v17) (.m 38198 [v21,v9] (v21) (.m 38196 [v9,v9] (v9) (.o 38195 [v22,v9] (v22))
 (.o 38197 [v8,v9] (v8)))
 (.m 38201 [v38,v9] (v38) (.o 38199 [v11,v9] (v11))
 (.l)))
 (.m 38985 [v9,v19] (v19) (.m 38459 [v9,v8] (v8) (.o 38205 [v14,v9] (v14))
 (.o 38984 [v22,v11] (v21)))
 (.m 40037 [v9,v17] (v17) (.o 38986 [v8,v11] (v14))
 (.l))),
 .m 38984 [v22,v19] (v38) (.o 38199 [v19,v9] (v19))
 (.o 38986 [v8,v19] (v17))]
def k2:List (Nat×zE):=[(100,zy2)]
def zzA:zE:=[.m 39510 [v10,v27] (v10) (.m 38201 [v27,v9] (v27) (.m 37934 [v8,v22] (v25) (.m 37932 [v22,v22] (v9) (.o 36640 [v8,v39] (v40))
 (.l))
 (.o 38197 [v25,v9] (v25)))
 (.m 38460 [v8,v8] (v19) (.o 38458 [v22,v8] (v25))
 (.o 38988 [v19,v19] (v41))))
 (.m 40572 [v37,v37] (v42) (.m 39848 [v31,v31] (v39) (.o 39747 [v17,v43] (v44))
 (.o 40036 [v10,v17] (v10)))
 (.m 64233 [v9,v42] (v42) (.o 42156 [v41,v41] (v43))
 (.o 64242 [v37,v42] (v31))))]
def k3:List (Nat×zE):=[(100,zzA)]
def zwk:zE:=[.m 46102 [zmS,v9] (zmS) (.m 25125 [zJX,zbk] (zFR) (.m 20968 [v46,v46] (zFb) (.m 19736 [v10,v47] (v10) (.o 14861 [.agg [j 10000000,.nils],v48] (v49))
 (.l))
 (.o 22125 [v42,v46] (v47)))
 (.m 39210 [zKJ,v8] (zmS) (.o 26453 [v50,v47] (zNV))
 (.o 42749 [zac,zbk] (zH8))))
 (.m 54941 [v47,zFb] (zac) (.m 51345 [.agg [j 1,v51],zbk] (zHh) (.o 48092 [v31,v52] (.agg [j 10000000,.nils]))
 (.o 54528 [v48,v48] (v46)))
 (.m 63598 [zOQ,v49] (zOp) (.o 57092 [v52,v52] (v48))
 (.o 64332 [v42,v42] (v52))))]
def k4:List (Nat×zE):=[(100,zwk)]
def zxi:zE:=[.m 38534 [zJD,zbk] (zDU) (.m 15100 [zIT,zbk] (zEG) (.m 7612 [.agg [j 1,v53],zbk] (zIF) (.m 3239 [.agg [j 1,v54],zbk] (zLz) (.o 1139 [zKM,zbk] (zKt))
 (.l))
 (.o 14466 [zzU,zbk] (zGV)))
 (.m 24752 [.agg [j 1,v55],zbk] (zHX) (.o 21686 [zEy,zbk] (zF4))
 (.o 30765 [.agg [j 1,v56],zbk] (zEW))))
 (.m 44660 [zCI,zbk] (zG1) (.m 42033 [zJf,zbk] (zIB) (.o 39135 [zBZ,zbk] (zGo))
 (.o 44380 [zHm,zbk] (zHx)))
 (.m 58192 [zLo,zbk] (zEs) (.o 51616 [zJ0,zbk] (zE6))
 (.o 60912 [zCq,zbk] (zEE))))]
def k5:List (Nat×zE):=[(100,zxi)]
def zwL:zE:=[.m 39915 [zLP,zbk] (zFA) (.m 20531 [v57,zbk] (zD2) (.m 9412 [v58,zbk] (zJF) (.m 5118 [v59,zbk] (zFP) (.o 1081 [v60,zbk] (zGk))
 (.l))
 (.o 9415 [zGm,zbk] (zFG)))
 (.m 27485 [v61,zbk] (zFv) (.o 21645 [zEx,zbk] (zJq))
 (.o 35756 [.agg [j 1,v62],zbk] (zGT))))
 (.m 45962 [zH2,zbk] (zJz) (.m 44737 [zBJ,zbk] (zII) (.o 44520 [v63,zbk] (zD9))
 (.o 44885 [zGA,zbk] (zEh)))
 (.m 57180 [zFQ,zbk] (zFS) (.o 54647 [zAi,zbk] (zEp))
 (.o 59662 [v64,zbk] (zEv))))]
def k6:List (Nat×zE):=[(100,zwL)]
def zyt:zE:=[.m 38722 [v9,v21] (v21) (.m 37933 [v9,v22] (v22) (.m 21012 [v65,zbk] (zLA) (.m 20245 [v66,zbk] (zLn) (.o 9837 [v49,zFb] (zhW))
 (.l))
 (.o 30658 [v67,zbk] (zKP)))
 (.m 38462 [v11,v8] (v14) (.o 38203 [v7,v9] (v7))
 (.o 38463 [v28,v8] (v37))))
 (.m 40036 [v22,v17] (.agg [j (-8),.nils]) (.m 38987 [v21,v19] (v68) (.o 38984 [v10,v19] (v10))
 (.o 38992 [v17,v19] (v69)))
 (.m 51247 [v70,zbk] (zKE) (.o 40038 [v8,v17] (v41))
 (.o 51252 [v71,zbk] (zJP))))]
def k7:List (Nat×zE):=[(100,zyt)]
def zwn:zE:=[.m 37938 [v38,v22] (v19) (.m 37935 [v21,v10] (v10) (.m 37933 [v9,v10] (v10) (.o 37932 [v10,v22] (v10))
 (.o 37934 [v8,v10] (v10)))
 (.m 37937 [v28,v10] (v10) (.o 37936 [v19,v10] (v10))
 (.l)))
 (.m 38985 [v9,v11] (v11) (.m 38206 [v72,v9] (v72) (.o 38200 [v28,v9] (v28))
 (.o 38723 [v8,v21] (v27)))
 (.m 64232 [v10,v42] (v10) (.o 38989 [v28,v11] (v73))
 (.l))),
 .m 37934 [v25,v22] (v8) (.o 37932 [v10,v10] (v10))
 (.l),
 .o 37934 [v25,v10] (v10)]
def k8:List (Nat×zE):=[(100,zwn)]
def zy9:zE:=[.m 39575 [v9,v48] (v48) (.m 38458 [v10,v25] (v10) (.m 26622 [v9,v35] (v35) (.m 18915 [v24,v9] (v24) (.o 157 [.agg [j (-11184810),.nils],v21] (.agg [j (-33554430),.nils]))
 (.l))
 (.o 37938 [v38,v10] (v10)))
 (.m 38460 [v8,v25] (v38) (.o 38459 [v9,v25] (v25))
 (.o 39574 [v10,v48] (v10))))
 (.m 42036 [v74,v9] (v74) (.m 39741 [v8,v43] (.agg [j 512,.nils]) (.o 39740 [v9,v43] (v43))
 (.o 39995 [v43,v43] (v75)))
 (.m 42389 [.agg [j 512,.nils],v75] (v35) (.o 42133 [v43,v75] (v76))
 (.o 45875 [v35,v9] (v35))))]
def k9:List (Nat×zE):=[(100,zy9)]
def ztg:zE:=[.m 38462 [v11,v25] (v27) (.m 38458 [v10,v8] (v10) (.m 38195 [v10,v9] (v10) (.o 37936 [v11,v10] (v10))
 (.l))
 (.o 38461 [v21,v25] (v14)))
 (.m 42035 [v76,v9] (v76) (.o 38721 [v22,v21] (v11))
 (.o 42296 [.agg [j (-8388608),.nils],v8] (.agg [j (-16777216),.nils]))),
 .m 38721 [v10,v21] (v10) (.o 38461 [v21,v8] (v27))
 (.l)]
def zs5:zE:=[.m 38201 [v38,v9] (v77) (.m 38197 [v25,v9] (v78) (.o 38196 [v9,v9] (v79))
 (.o 38198 [v21,v9] (v80)))
 (.m 38205 [v14,v9] (v81) (.o 38203 [v17,v9] (v82))
 (.l))]
def k10:List (Nat×zE):=[(100,ztg),(101,zs5)]
def zrX:zE:=[.m 38200 [v28,v9] (v83) (.m 38197 [v8,v9] (v84) (.m 38195 [v22,v9] (v85) (.o 7044 [v40,v9] (v86))
 (.l))
 (.o 38199 [v19,v9] (v87)))
 (.m 38206 [v72,v9] (v88) (.o 38201 [v27,v9] (v89))
 (.o 38223 [v73,v9] (v90))),
 .m 38199 [v11,v9] (v91) (.o 38195 [v10,v9] (v92))
 (.l)]
def zr1:zE:=[.m 16302 [v93] (v94) (.m 5359 [v78] (v84) (.o 5357 [v92] (v92))
 (.l))
 (.m 30898 [v95] (v96) (.o 30896 [v97] (v98))
 (.l)),
 .o 5357 [v85] (v79)]
def k11:List (Nat×zE):=[(101,zrX),(102,zr1)]
def zqc:zE:=[.m 5361 [v91] (v80) (.m 5359 [v84] (v78) (.o 5358 [v79] (v85))
 (.o 5360 [v80] (v91)))
 (.m 9005 [v99] (zci) (.o 7277 [zIO] (zOe))
 (.o 51597 [zHT] (zOg)))]
def zqb:zE:=[.m 9006 [zci] (.bool false) (.m 5365 [v82] (.bool false) (.m 5361 [v91] (.bool false) (.o 5357 [v92] (.bool false))
 (.l))
 (.o 5367 [v81] (.bool false)))
 (.m 30894 [zc6] (.bool false) (.o 9013 [zul] (.bool false))
 (.o 57349 [zC6] (.bool false))),
 .o 5361 [v87] (.bool false)]
def k12:List (Nat×zE):=[(102,zqc),(107,zqb)]
def zsf:zE:=[.m 12653 [zpa] (.bool false) (.m 5360 [v80] (.bool false) (.m 5359 [v78] (.bool false) (.o 5358 [v79] (.bool false))
 (.l))
 (.m 10861 [zBi] (.bool false) (.o 5362 [v83] (.bool false))
 (.l)))
 (.m 47466 [zBF] (.bool false) (.m 46761 [zB5] (.bool false) (.o 12655 [zh4] (.bool false))
 (.l))
 (.m 62288 [zBS] (.bool false) (.o 62113 [zB7] (.bool false))
 (.l))),
 .o 5359 [v84] (.bool false)]
def zru:zE:=[.m 5359 [v84] (j 1) (.m 5358 [v79] (j 1) (.o 5357 [v85] (j (-1)))
 (.l))
 (.o 5361 [v87] (j 1))]
def k13:List (Nat×zE):=[(107,zsf),(108,zru)]
def zrn:zE:=[.m 9005 [v99] (j (-1)) (.m 5360 [v80] (j 1) (.m 5359 [v78] (j (-1)) (.o 5357 [v92] (j 0))
 (.l))
 (.o 5361 [v91] (j (-1))))
 (.m 9198 [zuU] (j 1) (.o 9009 [zoe] (j (-1)))
 (.o 12654 [zCZ] (j 1)))]
def zrl:zE:=[.m 28695 [v21] (v80) (.m 28693 [v9] (v79) (.o 28692 [v22] (v85))
 (.o 28694 [v8] (v84)))
 (.m 28700 [v17] (v82) (.o 28696 [v11] (v91))
 (.l)),
 .m 28696 [v19] (v87) (.o 28692 [v10] (v92))
 (.l)]
def k14:List (Nat×zE):=[(108,zrn),(111,zrl)]
def zsC:zE:=[.m 28703 [v72] (v88) (.m 28694 [v25] (v78) (.m 9412 [v24] (zLG) (.o 9411 [zpF] (zHT))
 (.l))
 (.m 28698 [v38] (v77) (.o 28697 [v28] (v83))
 (.l)))
 (.m 36599 [zmS] (.agg [j 1,v45,j 1,.nils]) (.m 32533 [v74] (zuU) (.o 30612 [zGb] (zIO))
 (.l))
 (.o 45877 [v39] (zNH))),
 .o 28698 [v27] (v89)]
def zsO:zE:=[.m 38721 [v10,v21] (v21) (.m 38458 [v10,v8] (v8) (.o 38195 [v10,v9] (v9))
 (.l))
 (.m 39247 [v10,v28] (v28) (.o 38984 [v10,v19] (v19))
 (.l))]
def k15:List (Nat×zE):=[(111,zsC),(119,zsO)]
def zqs:zE:=[.m 38197 [v8,v9] (v21) (.m 35436 [v10,v50] (v50) (.m 19324 [zNV,.agg [j 846264338327950288,.nils]] (zOQ) (.m 18102 [zi1,zi1] (zJJ) (.o 17316 [zEu,.agg [j 1411,.nils]] (zJJ))
 (.l))
 (.o 34584 [v44,.agg [j 976,.nils]] (.agg [j 3024,.nils])))
 (.m 37934 [v8,v10] (v8) (.o 37933 [v9,v10] (v9))
 (.o 38196 [v9,v9] (v8))))
 (.m 39609 [zi1,v9] (zvi) (.m 38684 [zOp,.agg [j 419716939937510,.nils]] (zKJ) (.o 38459 [v9,v8] (v21))
 (.o 39510 [v10,v27] (v27)))
 (.m 58641 [zac,.agg [j (-1),v51]] (zON) (.o 40036 [v10,v17] (v17))
 (.o 59525 [zKl,.agg [j 1322,.nils]] (.agg [j 2834,.nils]))))]
def k16:List (Nat×zE):=[(119,zqs)]
def zq9:zE:=[.m 22725 [zN6,v59] (zNK) (.m 12706 [zN1,zAi] (zOl) (.m 10257 [zNM,.agg [j (-1),v54]] (zOa) (.m 6588 [zMI,.agg [j (-1),v53]] (zOC) (.o 3745 [zPf,.agg [j (-1),v55]] (zOG))
 (.l))
 (.o 12138 [zNd,.agg [j (-1),v56]] (zNr)))
 (.m 18235 [zOC,zBJ] (zOL) (.o 17430 [zNr,zCq] (zNM))
 (.o 22433 [zNm,.agg [j (-91810290),.nils]] (zM6))))
 (.m 53337 [zON,zCI] (zNd) (.m 31748 [zOL,.agg [j (-1),v62]] (zN1) (.o 29295 [zNK,.agg [j (-268556931493155),.nils]] (zOM))
 (.o 43670 [zOG,zzU] (zMI)))
 (.m 60309 [zOl,.agg [j (-1),w [3045029095724553698,25]]] (zN6) (.o 57735 [zOa,zBZ] (zPf))
 (.o 63469 [zOM,v61] (zNm))))]
def k17:List (Nat×zE):=[(119,zq9)]
def zs4:zE:=[.m 39609 [zt7,v9] (v36) (.m 38930 [zzO,v39] (zuL) (.m 38461 [v21,v8] (v28) (.m 37932 [v10,v10] (v10) (.o 37110 [zzO,.agg [j (-1000000),.nils]] (ztt))
 (.l))
 (.o 38902 [v16,v9] (zmZ)))
 (.m 39510 [v22,v27] (v28) (.o 39344 [v36,v22] (zt7))
 (.o 39514 [v19,v38] (v10))))
 (.m 40570 [v17,v14] (v8) (.m 40044 [v17,v7] (v21) (.o 40040 [v11,v17] (v28))
 (.o 40224 [zOY,v10] (zzO)))
 (.m 45221 [zM6,v67] (zNX) (.o 41620 [v38,.agg [j (-8),.nils]] (zzz))
 (.o 54689 [zNX,.agg [j (-19),.nils]] (zOY))))]
def k18:List (Nat×zE):=[(119,zs4)]
def zrL:zE:=[.m 38985 [v9,v19] (v28) (.m 37937 [v28,v10] (v28) (.m 37932 [v22,v10] (v22) (.m 29936 [v74,.agg [j (-16777216),.nils]] (v9) (.o 21412 [v35,.agg [j (-33554430),.nils]] (v8))
 (.l))
 (.o 37935 [v21,v10] (v21)))
 (.m 38725 [v11,v21] (v10) (.o 38460 [v8,v25] (v10))
 (.o 38984 [v10,v11] (v11))))
 (.m 40568 [v27,v14] (v10) (.m 39515 [v28,v38] (v9) (.o 38987 [v21,v11] (v10))
 (.o 40566 [v19,v14] (v25)))
 (.m 45307 [v72,v73] (v38) (.o 40825 [v10,v72] (v72))
 (.o 65300 [v10,v74] (v74))))]
def k19:List (Nat×zE):=[(119,zrL)]
def zsG:zE:=[.m 37934 [v25,v10] (v25) (.o 37932 [v10,v22] (v22))
 (.o 38460 [v25,v8] (v10))]
def zrr:zE:=[.m 26590 [.bool false,j 4] (j 0) (.m 26064 [.bool false,j 2] (j 0) (.o 25801 [.bool false,j 1] (j 0))
 (.o 26327 [.bool false,j 3] (j 0)))
 (.m 28431 [.bool false,j 11] (j 0) (.o 26853 [.bool false,j 5] (j 0))
 (.o 28694 [.bool false,j 12] (j 0)))]
def zsn:zE:=[.m 34670 [.vsl true 3 [j 0,j 0,j 0]] (j 0) (.o 27379 [.vsl true 2 [j 0,j 0]] (j 0))
 (.o 51832 [.vsl true 4 [j 0,j 0,j 0,j 0]] (j 0))]
def zrs:zE:=[.m 2148 [v1] (.bool true) (.o 2147 [v0] (.bool true))
 (.o 2151 [v29] (.bool true))]
def k20:List (Nat×zE):=[(119,zsG),(124,zrr),(125,zsn),(129,zrs)]
def zs2:zE:=[.m 2152 [.str [54]] (.bool true) (.m 2149 [v6] (.bool true) (.o 2146 [v2] (.bool true))
 (.o 2150 [v5] (.bool true)))
 (.m 15011 [ztr] (.bool true) (.o 2154 [v18] (.bool true))
 (.o 15572 [zy7] (.bool true)))]
def zss:zE:=[.m 38466 [v7,v8] (.tup [v11,v9]) (.m 38199 [v19,v9] (.tup [v19,v10]) (.m 38197 [v8,v9] (zwm) (.o 38196 [v9,v9] (zuI))
 (.l))
 (.o 38463 [v28,v8] (.tup [v8,v9])))
 (.m 38985 [v9,v19] (zuu) (.m 38749 [v73,v21] (.tup [v7,v10]) (.o 38727 [v27,v21] (zwm))
 (.l))
 (.o 39525 [zuN,v27] (.tup [v8,v21])))]
def k21:List (Nat×zE):=[(129,zs2),(164,zss)]
def zrt:zE:=[.m 38466 [v17,v8] (.tup [v19,v10]) (.m 38459 [v9,v8] (zuu) (.m 21237 [v40,v44] (.tup [.agg [j 976,.nils],.agg [j 1152,.nils]]) (.m 11311 [v40,zKl] (.tup [.agg [j 1322,.nils],.agg [j 1136,.nils]]) (.o 7044 [v40,v9] (.tup [v40,v10]))
 (.l))
 (.o 38203 [v17,v9] (.tup [v17,v10])))
 (.m 38461 [v21,v8] (.tup [v9,v9]) (.o 38460 [v8,v8] (zuI))
 (.o 38462 [v19,v8] (zwm))))
 (.m 41286 [zJJ,v8] (.tup [zi1,v10]) (.m 40037 [v9,v17] (zuu) (.o 38986 [v8,v19] (zzb))
 (.o 40038 [v8,v17] (zzb)))
 (.m 41482 [.agg [j 3024,.nils],v8] (.tup [zKl,v10]) (.o 41292 [.agg [j 2834,.nils],v8] (.tup [zEu,v10]))
 (.o 51847 [v40,zEu] (.tup [.agg [j 1411,.nils],.agg [j 613,.nils]]))))]
def k22:List (Nat×zE):=[(164,zrt)]
def zqx:zE:=[.m 40262 [zi1,v31] (.tup [v9,zGU]) (.m 38464 [v27,v8] (zBp) (.m 17536 [zIc,zFB] (.tup [v8,zJo]) (.m 17035 [v31,zIc] (.tup [v8,zFB]) (.o 16772 [v31,zGU] (.tup [v8,zEA]))
 (.l))
 (.o 18061 [zGU,zEA] (.tup [v8,zKO])))
 (.m 39542 [v69,v27] (.tup [v28,v8]) (.o 39458 [v31,v8] (.tup [v13,v10]))
 (.o 39872 [zi1,v8] (.tup [v16,v10]))))
 (.m 46418 [zKO,v69] (.tup [v8,v27]) (.m 41897 [zBj,zuN] (.tup [v9,v28]) (.o 40263 [zvi,v31] (.tup [v9,zIc]))
 (.o 43267 [zJo,zBj] (.tup [v21,zuN])))
 (.m 56514 [zEA,zKO] (.tup [v8,v69]) (.o 51058 [v40,zi1] (.tup [zi1,.agg [j 604,.nils]]))
 (.o 57827 [zFB,zJo] (.tup [v8,zBj]))))]
def k23:List (Nat×zE):=[(164,zqx)]
def zq3:zE:=[.m 39511 [v9,v27] (zuu) (.m 37218 [zBl,v68] (.tup [zCI,v27]) (.m 16985 [zHh,zac] (.tup [zEy,.agg [j 1,.vsl false 3 [u 1235828631747698810,u 1079552342813895860,u 113493716422]]]) (.m 15847 [zF4,zac] (.tup [zBl,.agg [j 1,.vsl false 3 [u 7173920219356902912,u 14913013201911312773,u 249251386827]]]) (.o 2872 [.agg [j 1,zA4],v8] (.tup [zbk,v9]))
 (.l))
 (.o 26707 [zG1,zac] (.tup [zJf,.agg [j 1,.vsl false 3 [u 1746377658667505148,u 1599727212568632173,u 227174926597]]])))
 (.m 38992 [v17,v19] (zwm) (.o 38201 [v27,v9] (.tup [v27,v10]))
 (.o 39262 [zuN,v28] (zBp))))
 (.m 45348 [zBX,v8] (.tup [.agg [j 1,v51],v9]) (.m 40662 [zvi,v28] (.tup [v32,v10]) (.o 40247 [v31,v28] (.tup [v20,v10]))
 (.o 44631 [zFR,zac] (.tup [zBX,.agg [j 1,.vsl false 3 [u 421539611954999217,u 13196361294450075735,u 272546525667]]])))
 (.m 47943 [zmS,v17] (.tup [zbk,v19]) (.o 46891 [zmS,v19] (.tup [.agg [j 1,zA4],v10]))
 (.o 51269 [zH8,zac] (.tup [zJX,v10]))))]
def k24:List (Nat×zE):=[(164,zq3)]
def zqn:zE:=[.m 39824 [zE6,zac] (.tup [zB6,.agg [j 1,.vsl false 3 [u 3957293859378521763,u 1070264078444544701,u 39820490084]]]) (.m 23221 [zIB,zac] (.tup [zC2,.agg [j 1,.vsl false 3 [u 5049880919036410662,u 15456940594375998285,u 108881395591]]]) (.m 12502 [zC2,zJ3] (.tup [.agg [j 1,v56],.agg [j 18,.nils]]) (.m 6417 [zHX,zac] (.tup [zJD,.agg [j 1,.vsl false 3 [u 2236115821013113877,u 5139296421525228835,u 214964783928]]]) (.o 1506 [zEW,zac] (.tup [zIT,.agg [j 1,.vsl false 3 [u 1282353773684968516,u 3289625660447247870,u 196580211114]]]))
 (.l))
 (.o 21468 [zCo,.agg [j 182,.nils]] (.tup [.agg [j 1,v55],.agg [j 123,.nils]])))
 (.m 35418 [zCk,.agg [j 56,.nils]] (.tup [zCq,v19]) (.o 25241 [zEE,zac] (.tup [zJ0,.agg [j 1,.vsl false 3 [u 4818490623631867340,u 16394987128794677289,u 272389265430]]]))
 (.o 39132 [zB6,.agg [j 90,.nils]] (.tup [.agg [j 1,v54],v72]))))
 (.m 49018 [zHx,zac] (.tup [zCo,.agg [j 1,.vsl false 3 [u 2523625169501610171,u 17067363556509273432,u 75021796449]]]) (.m 44138 [zLz,zac] (.tup [zKM,.agg [j 1,.vsl false 3 [u 15320273221443061843,u 12503505949779772,u 151336667214]]]) (.o 40594 [zDU,zac] (.tup [zzK,.agg [j 1,.vsl false 3 [u 6473246494091955159,u 4262437969390320619,u 292627674578]]]))
 (.o 45093 [zGo,zac] (.tup [zHm,.agg [j 1,.vsl false 3 [u 14523843154860188619,u 14361084977088776627,u 276609180204]]])))
 (.m 54294 [zKt,zac] (.tup [zA7,.agg [j 1,.vsl false 3 [u 15840774403327411665,u 11942699833789439100,u 140357623712]]]) (.o 51549 [zA7,.agg [j 132,.nils]] (.tup [zBZ,.agg [j 50,.nils]]))
 (.o 58347 [zEG,zac] (.tup [zCk,.agg [j 1,.vsl false 3 [u 17863603311630982995,u 11726035622108506063,u 25133904187]]]))))]
def k25:List (Nat×zE):=[(164,zqn)]
def zsB:zE:=[.m 27885 [zEh,zac] (.tup [zAw,.agg [j 1,.vsl false 3 [u 8746584666257613248,u 12575681850306854528,u 44808278737]]]) (.m 8933 [zEs,zac] (.tup [zCG,.agg [j 1,.vsl false 3 [u 18170290448945823725,u 4863456854025250333,u 177576882805]]]) (.m 6609 [zGT,zac] (.tup [zGA,.agg [j 1,.vsl false 3 [u 1230989211628645002,u 1159565562802114719,u 17798937139]]]) (.m 5976 [zJq,zac] (.tup [zCV,.agg [j 1,.vsl false 3 [u 15181002372271313457,u 15855354825785105609,u 127223305244]]]) (.o 5494 [zC0,.agg [j 462,.nils]] (.tup [.agg [j 1,v62],.agg [j 109,.nils]]))
 (.l))
 (.o 8107 [zB4,.agg [j 650,.nils]] (.tup [zFQ,.agg [j 138,.nils]])))
 (.m 16322 [zEp,zac] (.tup [zH2,.agg [j 1,.vsl false 3 [u 6359753310305933972,u 12002794089071725076,u 130763764821]]]) (.o 10208 [zGV,zac] (.tup [zLo,.agg [j 1,.vsl false 3 [u 2390991103675935201,u 2398540852768645950,u 183800717753]]]))
 (.o 17484 [zCG,.agg [j 306,.nils]] (.tup [.agg [j 1,v53],.agg [j 109,.nils]]))))
 (.m 50063 [zIF,zac] (.tup [zEx,.agg [j 1,.vsl false 3 [u 1363536335835424732,u 1604162463768968710,u 264198958956]]]) (.m 35274 [zJz,zac] (.tup [zB4,.agg [j 1,.vsl false 3 [u 8799859423424730889,u 18345504288447267381,u 151275892387]]]) (.o 31596 [zAw,.agg [j 552,.nils]] (.tup [zAi,.agg [j 265,.nils]]))
 (.o 46549 [zFG,zac] (.tup [zC0,.agg [j 1,.vsl false 3 [u 6844174947456487896,u 7934601446456017395,u 26722947584]]])))
 (.m 58276 [zCV,.agg [j 380,.nils]] (.tup [zBJ,.agg [j 160,.nils]]) (.o 52971 [zII,zac] (.tup [zGm,.agg [j 1,.vsl false 3 [u 8692097415552468201,u 12762717506135777163,u 59332127679]]]))
 (.o 58578 [zzK,.agg [j 240,.nils]] (.tup [zzU,.agg [j 213,.nils]]))))]
def k26:List (Nat×zE):=[(164,zsB)]
def zrY:zE:=[.m 30325 [zFS,zac] (.tup [zLP,.agg [j 1,.vsl false 3 [u 1579144640813099602,u 7733978210614872140,u 131240361634]]]) (.m 18179 [zBP,.agg [j 1122,.nils]] (.tup [v60,.agg [j 771,.nils]]) (.m 9739 [zFP,zac] (.tup [v64,.agg [j 1,.vsl false 3 [u 7290936844905413076,u 11398232400322276176,u 7413401391]]]) (.m 9243 [zEv,zac] (.tup [zzQ,.agg [j 1,.vsl false 3 [u 13587521312188827580,u 11758254733816970059,u 65734798861]]]) (.o 1584 [zzT,.agg [j 992,.nils]] (.tup [v61,.agg [j 817,.nils]]))
 (.l))
 (.o 13230 [zFA,zac] (.tup [zz5,.agg [j 1,.vsl false 3 [u 349461191194858758,u 622604278883827451,u 36576459784]]])))
 (.m 26135 [zFv,zac] (.tup [v58,.agg [j 1,.vsl false 3 [u 16048122460062088079,u 6651628531624551829,u 221869364373]]]) (.o 18972 [zLn,zac] (.tup [zAe,.agg [j 1,.vsl false 3 [u 7609138115395105961,u 16981135940981975920,u 154323963535]]]))
 (.o 29390 [zKP,zac] (.tup [v65,.agg [j 1,.vsl false 3 [u 8468261177957575298,u 8940698426691163316,u 148656560223]]]))))
 (.m 46446 [zz5,.agg [j 756,.nils]] (.tup [v59,v37]) (.m 32606 [zD9,zac] (.tup [v57,.agg [j 1,.vsl false 3 [u 5065919791669400907,u 16506561736487297484,u 83028630264]]]) (.o 30929 [zD2,zac] (.tup [zzT,.agg [j 1,.vsl false 3 [u 10858523675194609978,u 3257907593705100571,u 81099056982]]]))
 (.o 43783 [zJF,zac] (.tup [zBP,.agg [j 1,.vsl false 3 [u 15490361791363993244,u 6078422657748804733,u 12337586889]]])))
 (.m 61455 [zzQ,.agg [j 870,.nils]] (.tup [v63,.agg [j 217,.nils]]) (.o 57597 [zGk,zac] (.tup [v66,.agg [j 1,.vsl false 3 [u 6367995094100048354,u 17496855401415799788,u 43195630703]]]))
 (.o 64765 [zAe,.agg [j 1260,.nils]] (.tup [v67,.agg [j 1242,.nils]]))))]
def k27:List (Nat×zE):=[(164,zrY)]
def zqK:zE:=[.m 32691 [zIA,zKB] (.tup [v8,zKW]) (.m 19705 [zLv,zIv] (.tup [v8,zIM]) (.m 15280 [zJP,zac] (.tup [v70,.agg [j 1,.vsl false 3 [u 18072714473608393915,u 9602986640170551272,u 271117517166]]]) (.m 7995 [zGZ,zJl] (.tup [v28,zLD]) (.o 5343 [zIM,zFO] (.tup [v8,zGZ]))
 (.l))
 (.o 18392 [zKE,zac] (.tup [v37,.agg [j 1,.vsl false 3 [u 8706354635702509598,u 17203401714586090397,u 292572987713]]])))
 (.m 25369 [zFO,zGZ] (.tup [v9,zJl]) (.o 20207 [zJl,zLD] (.tup [v9,zL2]))
 (.o 27890 [zL2,zIA] (.tup [v8,zKB]))))
 (.m 46786 [zLA,zac] (.tup [zAT,.agg [j 1,.vsl false 3 [u 6276526027401755076,u 4281137798239609278,u 163149191346]]]) (.m 42928 [zIv,zIM] (.tup [v9,zFO]) (.o 42308 [zAT,.agg [j 1406,.nils]] (.tup [v71,.agg [j 1010,.nils]]))
 (.o 43711 [zLD,zL2] (.tup [v9,zIA])))
 (.m 55096 [v37,.agg [j 1560,.nils]] (.tup [v10,v37]) (.o 52492 [zhW,zLv] (.tup [zEt,zIv]))
 (.o 64035 [ztt,zhW] (.tup [v16,zLv]))))]
def k28:List (Nat×zE):=[(164,zqK)]
def zr0:zE:=[.m 40200 [zIy,zKj] (.tup [v21,zD8]) (.m 7360 [zFW,zLa] (.tup [v8,zJj]) (.m 4417 [zEN,zEc] (.tup [v8,zDP]) (.m 3666 [zIP,zD3] (.tup [v8,zEN]) (.o 3318 [zD8,zIa] (.tup [v9,zKz]))
 (.l))
 (.o 6857 [zKz,zFl] (.tup [zwv,zEO])))
 (.m 32256 [zEc,zDP] (.tup [v9,zIy]) (.o 30442 [zFl,zEO] (.tup [v9,zFW]))
 (.o 38006 [zLa,zJj] (.tup [v9,zJg]))))
 (.m 58625 [zDP,zIy] (.tup [v9,zKj]) (.m 52281 [zIa,zKz] (.tup [v8,zFl]) (.o 42059 [zKj,zD8] (.tup [v8,zIa]))
 (.o 53079 [zKW,zIP] (.tup [v17,zD3])))
 (.m 62130 [zEO,zFW] (.tup [v21,zLa]) (.o 60543 [zKB,zKW] (.tup [v21,zIP]))
 (.o 62949 [zD3,zEN] (.tup [.agg [j 28,.nils],zEc]))))]
def k29:List (Nat×zE):=[(164,zr0)]
def zrz:zE:=[.m 42089 [zJL,zH4] (.tup [v9,zJQ]) (.m 32816 [zHu,zLd] (.tup [v21,zEj]) (.m 14349 [zLm,zIQ] (.tup [v9,zHu]) (.m 8250 [zJn,zHV] (.tup [v9,zK0]) (.o 427 [zGq,zGH] (.tup [v8,zJL]))
 (.l))
 (.o 30531 [zJj,zJg] (.tup [v8,zJn])))
 (.m 35160 [zGH,zJL] (.tup [v19,zH4]) (.o 34538 [zHV,zK0] (.tup [v17,zLm]))
 (.o 38102 [zL8,zGq] (.tup [v9,zGH]))))
 (.m 58975 [zLd,zEj] (.tup [v21,zFN]) (.m 56034 [zH4,zJQ] (.tup [v9,zL3]) (.o 51753 [zEj,zFN] (.tup [v19,zL8]))
 (.o 57997 [zIQ,zHu] (.tup [v27,zLd])))
 (.m 62478 [zK0,zLm] (.tup [v19,zIQ]) (.o 60603 [zFN,zL8] (.tup [v9,zGq]))
 (.o 64554 [zJg,zJn] (.tup [v9,zHV]))))]
def k30:List (Nat×zE):=[(164,zrz)]
def zrk:zE:=[.m 39774 [zJQ,zL3] (.tup [v9,zG6]) (.m 12557 [zIo,zD5] (.tup [v28,zEP]) (.m 9680 [zG7,zEr] (.tup [zJ3,zHO]) (.m 6224 [zFI,zG7] (.tup [zA6,zEr]) (.o 2037 [zGC,zFI] (.tup [v9,zG7]))
 (.l))
 (.o 10228 [zEr,zHO] (.tup [v9,zIo])))
 (.m 22616 [zD5,zEP] (.tup [v9,zKb]) (.o 20970 [zFL,zE3] (.tup [zA6,zJi]))
 (.o 30027 [zD7,zGC] (.tup [v9,zFI]))))
 (.m 51390 [zHO,zIo] (.tup [v9,zD5]) (.m 43866 [zG6,zD7] (.tup [v9,zGC]) (.o 41638 [zJi,zJ2] (.tup [v9,zMg]))
 (.o 51301 [zKb,zFL] (.tup [v9,zE3])))
 (.m 60015 [zL3,zG6] (.tup [v21,zD7]) (.o 53305 [zE3,zJi] (.tup [v9,zJ2]))
 (.o 64052 [zEP,zKb] (.tup [v19,zFL]))))]
def k31:List (Nat×zE):=[(164,zrk)]
def zrF:zE:=[.m 44712 [zDV,zFy] (.tup [v9,zE9]) (.m 40942 [zE9,zFe] (.tup [.agg [j 34,.nils],zIb]) (.m 30382 [zFa,zDW] (.tup [v21,zLw]) (.m 14716 [zEC,zFt] (.tup [v28,zDV]) (.o 9615 [zLw,zEC] (.tup [v9,zFt]))
 (.l))
 (.o 35632 [zLb,zL1] (.tup [v9,zFa])))
 (.m 41702 [zFy,zE9] (.tup [v9,zFe]) (.o 41184 [zFt,zDV] (.tup [v21,zFy]))
 (.o 44031 [zEl,zH6] (.tup [v8,zEg]))))
 (.m 57848 [zIb,zEl] (.tup [v8,zH6]) (.m 48081 [zFe,zIb] (.tup [v21,zEl]) (.o 45650 [zH6,zEg] (.tup [v8,zI0]))
 (.o 51920 [zDW,zLw] (.tup [v9,zEC])))
 (.m 65078 [zJ2,zMg] (.tup [v68,zLb]) (.o 63534 [zL1,zFa] (.tup [v21,zDW]))
 (.o 65371 [zMg,zLb] (.tup [.agg [j 53,.nils],zL1]))))]
def k32:List (Nat×zE):=[(164,zrF)]
def zr7:zE:=[.m 27146 [zEF,zIs] (.tup [v9,zEY]) (.m 21221 [zI0,zEe] (.tup [v9,zEa]) (.m 14870 [zF3,zHc] (.tup [v8,zMd]) (.m 8469 [zHc,zMd] (.tup [v9,zFp]) (.o 784 [zEa,zFC] (.tup [zA6,zLe]))
 (.l))
 (.o 17574 [zEe,zEa] (.tup [v27,zFC])))
 (.m 23404 [zFp,zIf] (.tup [v9,zJ6]) (.o 22997 [zMd,zFp] (.tup [v9,zIf]))
 (.o 23811 [zJ6,zE5] (.tup [zuN,zLt]))))
 (.m 39672 [zLe,zLZ] (.tup [v9,zEF]) (.m 28595 [zEg,zI0] (.tup [v21,zEe]) (.o 27866 [zEY,zF3] (.tup [v8,zHc]))
 (.o 37525 [zIf,zJ6] (.tup [v9,zE5])))
 (.m 57909 [zFC,zLe] (.tup [v9,zLZ]) (.o 56169 [zLZ,zEF] (.tup [v21,zIs]))
 (.o 61745 [zIs,zEY] (.tup [v17,zF3]))))]
def k33:List (Nat×zE):=[(164,zr7)]
def zrG:zE:=[.m 42172 [v69,v41] (zwm) (.m 12532 [zI7,zIH] (.tup [v9,zEo]) (.m 6351 [zhW,v41] (.tup [zA5,v10]) (.m 6283 [zJw,zHj] (.tup [v9,zGK]) (.o 2340 [zE5,zLt] (.tup [v9,zLL]))
 (.l))
 (.o 8026 [zKK,zED] (.tup [v41,zI7])))
 (.m 27451 [zEo,zJw] (.tup [v9,zHj]) (.o 15608 [zLL,zHU] (.tup [v9,zKK]))
 (.o 37267 [zED,zI7] (.tup [v9,zIH]))))
 (.m 50496 [zLt,zLL] (.tup [v19,zHU]) (.m 45726 [ztt,v41] (.tup [.agg [j 1,zvX],v10]) (.o 45514 [zHU,zKK] (.tup [v9,zED]))
 (.o 46396 [zvo,v69] (.tup [v9,v41])))
 (.m 59100 [zHj,zGK] (.tup [v9,zvo]) (.o 50636 [zGK,zvo] (.tup [v9,v69]))
 (.o 62667 [zIH,zEo] (.tup [v28,zJw]))))]
def k34:List (Nat×zE):=[(164,zrG)]
def zq6:zE:=[.m 29580 [zHo,zGi] (.tup [v21,zEm]) (.m 24387 [zKu,zHC] (.tup [v9,zHq]) (.m 22936 [zJK,zKu] (.tup [v9,zHC]) (.m 13113 [zKS,zLr] (.tup [v8,zGQ]) (.o 9320 [zGQ,zJK] (.tup [v28,zKu]))
 (.l))
 (.o 23517 [zGi,zEm] (.tup [v17,zIx])))
 (.m 27037 [.agg [j 1,zvX],zA5] (.tup [v16,.agg [j 1,.vsl false 3 [u 14324738801190271189,u 11979060741096308869,u 1961260]]]) (.o 24871 [zLr,zGQ] (.tup [v9,zJK]))
 (.o 27058 [zhW,zLN] (.tup [zEt,zJm]))))
 (.m 49943 [zHC,zHq] (.tup [v8,zHo]) (.m 41621 [zJm,zKS] (.tup [v9,zLr]) (.o 35557 [zEm,zIx] (.tup [v8,zKR]))
 (.o 49460 [zLN,zJm] (.tup [v8,zKS])))
 (.m 59199 [zHq,zHo] (.tup [v8,zGi]) (.o 54789 [zIx,zKR] (.tup [.agg [j 28,.nils],zKa]))
 (.o 61447 [zuL,zhW] (.tup [v16,zLN]))))]
def k35:List (Nat×zE):=[(164,zq6)]
def zrI:zE:=[.m 25367 [zKa,zKg] (.tup [v9,zGh]) (.m 11202 [zER,zKQ] (.tup [v21,zHA]) (.m 8007 [zEU,zER] (.tup [v9,zKQ]) (.m 7261 [zKQ,zHA] (.tup [v8,zIe]) (.o 5406 [zIe,zFj] (.tup [v8,zI4]))
 (.l))
 (.o 9521 [zG0,zGx] (.tup [v9,zGY])))
 (.m 13303 [zGh,zKU] (.tup [v21,zG0]) (.o 13112 [zKg,zGh] (.tup [v9,zKU]))
 (.o 22598 [zHA,zIe] (.tup [v9,zFj]))))
 (.m 37659 [zI4,zID] (.tup [v9,zIC]) (.m 30810 [zKU,zG0] (.tup [v8,zGx]) (.o 26028 [zKR,zKa] (.tup [v8,zKg]))
 (.o 37362 [zGY,zEU] (.tup [zwv,zER])))
 (.m 54823 [zID,zIC] (.tup [v17,zIG]) (.o 38763 [zFj,zI4] (.tup [v9,zID]))
 (.o 58997 [zGx,zGY] (.tup [v8,zEU]))))]
def k36:List (Nat×zE):=[(164,zrI)]
def zr9:zE:=[.m 48740 [zIG,zJu] (.tup [v9,zEM]) (.m 29196 [zKp,zFh] (.tup [v9,zK4]) (.m 26166 [zEM,zLh] (.tup [v21,zJ7]) (.m 15445 [zFD,zKY] (.tup [v9,zGJ]) (.o 2110 [zHR,zKF] (.tup [v9,zGr]))
 (.l))
 (.o 28034 [zJu,zEM] (.tup [v27,zLh])))
 (.m 36435 [zGJ,zKp] (.tup [v21,zFh]) (.o 32421 [zKY,zGJ] (.tup [v9,zKp]))
 (.o 39631 [zJ7,zHR] (.tup [v19,zKF]))))
 (.m 61107 [zLh,zJ7] (.tup [v21,zHR]) (.m 59592 [zIC,zIG] (.tup [v19,zJu]) (.o 58482 [zKF,zGr] (.tup [v9,zH3]))
 (.o 59976 [zFk,zFD] (.tup [v9,zKY])))
 (.m 62868 [zGr,zH3] (.tup [v8,zFk]) (.o 61547 [zH3,zFk] (.tup [v19,zFD]))
 (.o 64369 [zFh,zK4] (.tup [v9,zH7]))))]
def k37:List (Nat×zE):=[(164,zr9)]
def zsv:zE:=[.m 33713 [zH7,zKw] (.tup [zEt,zGs]) (.m 9872 [zDQ,zLM] (.tup [v9,zFY]) (.m 6503 [zF5,zMf] (.tup [v8,zJV]) (.m 3965 [zLM,zFY] (.tup [v21,zJT]) (.o 774 [zFY,zJT] (.tup [v9,zLK]))
 (.l))
 (.o 8582 [zK4,zH7] (.tup [v9,zKw])))
 (.m 30773 [zKw,zGs] (.tup [v19,zKc]) (.o 29779 [zLK,zFd] (.tup [v28,zEd]))
 (.o 32469 [zFd,zEd] (.tup [v8,zId]))))
 (.m 50117 [zGs,zKc] (.tup [v9,zD4]) (.m 48414 [zJV,zDQ] (.tup [v8,zLM]) (.o 35703 [zKc,zD4] (.tup [.agg [j 203,.nils],zEn]))
 (.o 48797 [zJT,zLK] (.tup [v9,zFd])))
 (.m 54669 [zD4,zEn] (.tup [.agg [j 220,.nils],zF5]) (.o 54303 [zEn,zF5] (.tup [v8,zMf]))
 (.o 63286 [zMf,zJV] (.tup [v9,zDQ]))))]
def k38:List (Nat×zE):=[(164,zsv)]
def zrE:zE:=[.m 46829 [zGj,zJd] (.tup [v8,zKv]) (.m 31047 [zKf,zGz] (.tup [v8,zKL]) (.m 17845 [zJd,zKv] (.tup [v9,zKZ]) (.m 17713 [zFc,zHM] (.tup [v9,zIj]) (.o 6148 [zKZ,zLS] (.tup [v37,zKG]))
 (.l))
 (.o 21982 [zGz,zKL] (.tup [v9,zH9])))
 (.m 38339 [zGu,zFc] (.tup [v9,zHM]) (.o 35400 [zKL,zH9] (.tup [.agg [j 47,.nils],zIL]))
 (.o 38829 [zEd,zId] (.tup [v9,zGu]))))
 (.m 54432 [zId,zGu] (.tup [v21,zFc]) (.m 49096 [zLS,zKG] (.tup [v9,zKf]) (.o 48535 [zKd,zGj] (.tup [v9,zJd]))
 (.o 53394 [zKG,zKf] (.tup [v19,zGz])))
 (.m 58861 [zKv,zKZ] (.tup [v37,zLS]) (.o 58558 [zHM,zIj] (.tup [v9,zKd]))
 (.o 62608 [zIj,zKd] (.tup [.agg [j 27,.nils],zGj]))))]
def k39:List (Nat×zE):=[(164,zrE)]
def zsr:zE:=[.m 43138 [zuL,v41] (.tup [.agg [j 1,zyr],v10]) (.m 26523 [zHS,zGG] (.tup [v21,zEV]) (.m 10495 [.agg [j 1,zyr],zA5] (.tup [v16,.agg [j 1,.vsl false 3 [u 14324738801190396189,u 11979060741096308869,u 1961260]]]) (.m 8735 [zLk,zLW] (.tup [v37,zEL]) (.o 3571 [zKn,zLk] (.tup [v8,zLW]))
 (.l))
 (.o 16928 [zGG,zEV] (.tup [v19,zIl])))
 (.m 39555 [v16,v31] (.tup [v10,v16]) (.o 27726 [zHz,zKn] (.tup [zA6,zLk]))
 (.o 42188 [zvo,v41] (zBp))))
 (.m 55324 [zIl,zJS] (.tup [v17,zvo]) (.m 48222 [zEL,zHS] (.tup [v21,zGG]) (.o 47727 [zH9,zIL] (.tup [v19,zHz]))
 (.o 50620 [zJS,zvo] (.tup [v9,v41])))
 (.m 61309 [zIL,zHz] (.tup [zBj,zKn]) (.o 57034 [zEV,zIl] (.tup [v28,zJS]))
 (.o 61973 [zLW,zEL] (.tup [v9,zHS]))))]
def k40:List (Nat×zE):=[(164,zsr)]
def zsM:zE:=[.m 40072 [zDT,v17] (.tup [v19,v19]) (.m 38902 [v16,v9] (.tup [v16,v10]) (.m 28310 [v31,v16] (.tup [v9,zGW]) (.m 5315 [zGE,zIJ] (.tup [v8,zLs]) (.o 4527 [zGW,zHw] (.tup [v8,zFu]))
 (.l))
 (.o 28573 [v31,zmZ] (.tup [v9,zGE])))
 (.m 39523 [zwv,v27] (.tup [v8,v9]) (.o 39195 [v31,v9] (.tup [v31,v10]))
 (.o 39556 [zmZ,v31] (.tup [v10,zmZ]))))
 (.m 49628 [zIJ,zLs] (.tup [v8,zDT]) (.m 42980 [zFu,v71] (.tup [v8,zwv]) (.o 41370 [v71,zwv] (.tup [v9,v27]))
 (.o 47444 [zLs,zDT] (.tup [v9,v17])))
 (.m 50177 [v16,zGW] (.tup [v8,zHw]) (.o 49915 [zmZ,zGE] (.tup [v8,zIJ]))
 (.o 51466 [zHw,zFu] (.tup [v8,v71]))))]
def k41:List (Nat×zE):=[(164,zsM)]
def zsL:zE:=[.m 39984 [v31,v19] (.tup [v33,v10]) (.m 39006 [zzz,v19] (.tup [v11,v10]) (.m 38726 [v28,v21] (.tup [v9,v8]) (.m 38200 [v28,v9] (.tup [v28,v10]) (.o 38198 [v21,v9] (zBp))
 (.l))
 (.o 38729 [v17,v21] (.tup [v8,v8])))
 (.m 39255 [v17,v28] (.tup [v9,v21]) (.o 39016 [v69,v19] (.tup [v17,v10]))
 (.o 39692 [zmZ,v19] (.tup [v30,v10]))))
 (.m 40048 [v68,v17] (.tup [v9,v19]) (.m 40040 [v11,v17] (.tup [v22,v28]) (.o 40039 [v21,v17] (.tup [v10,v21]))
 (.o 40041 [v28,v17] (.tup [v10,v28])))
 (.m 42142 [v8,v41] (zzb) (.o 41120 [v69,v68] (.tup [v8,v17]))
 (.o 46360 [v68,v69] (.tup [v10,v68]))))]
def k42:List (Nat×zE):=[(164,zsL)]
def zq0:zE:=[.m 38723 [v8,v21] (zzb) (.m 38195 [v10,v9] (zxB) (.m 20089 [v35,v24] (.tup [v8,zpF]) (.o 7341 [v24,v35] (.tup [v10,v24]))
 (.o 26622 [v9,v35] (zuu)))
 (.m 38474 [v41,v8] (.tup [v17,v10]) (.o 38458 [v10,v8] (zxB))
 (.o 38722 [v9,v21] (zuu))))
 (.m 42156 [v41,v41] (zuI) (.m 40398 [zt7,v19] (.tup [v34,v10]) (.o 39607 [v36,v9] (.tup [v36,v10]))
 (.o 42140 [v10,v41] (zxB)))
 (.m 46401 [v35,v21] (.tup [zpF,v8]) (.o 45875 [v35,v9] (.tup [v35,v10]))
 (.o 58387 [v24,zpF] (.tup [v9,v9])))),
 .o 38195 [v22,v9] (.tup [v22,v10])]
def k43:List (Nat×zE):=[(164,zq0)]
def zqL:zE:=[.m 38724 [v21,v21] (zuI) (.m 38199 [v11,v9] (.tup [v11,v10]) (.m 18915 [v24,v9] (.tup [v24,v10]) (.o 18914 [zpF,v9] (.tup [zpF,v10]))
 (.o 38197 [v25,v9] (.tup [v25,v10])))
 (.m 38721 [v10,v21] (zxB) (.o 38460 [v25,v8] (.tup [v22,v10]))
 (.l)))
 (.m 39516 [v27,v27] (zuI) (.m 38988 [v19,v19] (zuI) (.o 38984 [v10,v19] (zxB))
 (.o 39512 [v8,v27] (zzb)))
 (.m 42299 [v74,v8] (.tup [zGb,v9]) (.o 42036 [v74,v9] (.tup [v74,v10]))
 (.l)))]
def zql:zE:=[.m 53922 [v23,v1] (zps) (.o 41062 [v0,v1] (zvm))
 (.o 54962 [v12,v5] (zwH))]
def k44:List (Nat×zE):=[(164,zqL),(187,zql)]
def ztb:zE:=[.m 41451 [zBE,zzY] (.agg [zBE,zzY]) (.m 28098 [zn6,zih] (.agg [zn6,zih]) (.m 24930 [zih,zih] (.agg [zih,zih]) (.o 10560 [zAs,zAZ] (.agg [zAs,zAZ]))
 (.l))
 (.m 41326 [v1,v6] (.agg [v1,v6]) (.o 34640 [zBu,zCU] (.agg [zBu,zCU]))
 (.l)))
 (.m 41855 [v29,v29] (.agg [v29,v29]) (.m 41590 [v6,v5] (.agg [v6,v5]) (.o 41587 [v2,v5] (.agg [v2,v5]))
 (.l))
 (.m 56785 [v15,v18] (.agg [v15,v18]) (.o 42643 [v5,v18] (zz1))
 (.l)))]
def zrD:zE:=[.m 2148 [v1] (.agg [v1,v1]) (.m 2147 [v0] (zx5) (.o 2146 [v2] (.agg [v2,v2]))
 (.l))
 (.m 15007 [v23] (.agg [v23,v23]) (.o 2149 [v6] (.agg [v6,v6]))
 (.l))]
def k45:List (Nat×zE):=[(187,ztb),(219,zrD)]
def zr6:zE:=[.m 15264 [v26] (.agg [v26,v26]) (.o 2151 [v29] (.agg [v29,v29]))
 (.l)]
def ztd:zE:=[.o 24078 [.flt .f32 1051372203] (.bool true)]
def zqa:zE:=[.o 7 [] (.vmap [v2,ztu,ztL,zBk,zih,.str [50,47,51],.str [51,47,52],.str [53,47,54]] [v0,zih,v2,.str [45,49,47,50],v23,.str [45,49,47,50],v2,zih])]
def zrj:zE:=[.m 6739 [.flt .f64 4710765210229538816] (.bool false) (.o 178 [.flt .f64 4712266410284285952] (.bool false))
 (.l)]
def zsi:zE:=[.m 6739 [.flt .f64 4710765210229538816] (.flt .f64 4710765210229538816) (.o 178 [.flt .f64 4712266410284285952] (.flt .f64 4712266410284285952))
 (.l)]
def k46:List (Nat×zE):=[(219,zr6),(231,ztd),(238,zqa),(246,zrj),(252,zsi)]
def t1:Tr zE:=(.n 124 zrr (.n 102 (zr1++zqc) (.n 99 (zDm++zDj) (.n 59 zDt (.n 29 zDw .l .l) .l) (.n 101 (zs5++zrX) (.n 100 (zvK++zy2++zzA++zwk++zxi++zwL++zyt++zwn++zy9++ztg) .l .l) .l)) (.n 111 (zrl++zsC) (.n 108 (zru++zrn) (.n 107 (zqb++zsf) .l .l) .l) (.n 119 (zsO++zqs++zq9++zs4++zrL++zsG) .l .l))) (.n 219 (zrD++zr6) (.n 164 (zss++zrt++zqx++zq3++zqn++zsB++zrY++zqK++zr0++zrz++zrk++zrF++zr7++zrG++zq6++zrI++zr9++zsv++zrE++zsr++zsM++zsL++zq0++zqL) (.n 129 (zrs++zs2) (.n 125 zsn .l .l) .l) (.n 187 (zql++ztb) .l .l)) (.n 246 zrj (.n 238 zqa (.n 231 ztd .l .l) .l) (.n 252 zsi .l .l))))
def T1:List (Tr zE):=t1::T0
def zv2:zE:=[.m 46512 [.vsl false 2 [zua,ztv],.vsl true 2 [zua,ztv]] (.bool true) (.o 13824 [.vsl false 2 [zuV,ztB],.vsl true 2 [zuV,ztB]] (.bool true))
 (.l)]
def zw5:zE:=[.m 10861 [zBi] (zzY) (.m 5367 [v81] (v15) (.m 5361 [v91] (v12) (.o 5357 [v92] (v2))
 (.o 5365 [v82] (v18)))
 (.m 9013 [zul] (zvh) (.o 9006 [zci] (zih))
 (.l)))
 (.m 46761 [zB5] (zBu) (.m 30894 [zc6] (zn6) (.o 23598 [zmX] (ztu))
 (.o 30898 [v95] (.str [53,47,56])))
 (.m 62113 [zB7] (zCU) (.o 57349 [zC6] (zBE))
 (.l))),
 .o 5361 [v87] (v5)]
def k47:List (Nat×zE):=[(28,zv2),(46,zw5)]
def zwX:zE:=[.m 12655 [zh4] (v3) (.m 5360 [v80] (v6) (.m 5359 [v78] (v26) (.o 5358 [v79] (v0))
 (.l))
 (.m 12653 [zpa] (v4) (.o 5362 [v83] (v29))
 (.l)))
 (.m 47466 [zBF] (zAZ) (.m 21602 [zC1] (zMJ) (.o 16302 [v93] (ztL))
 (.l))
 (.o 62288 [zBS] (zAs))),
 .o 5359 [v84] (v1)]
def zxX:zE:=[.m 37518 [v85,v91] (v80) (.o 36466 [v85,v85] (v79))
 (.o 37520 [v84,v91] (v81)),
 .m 37520 [v84,v87] (v82) (.o 37518 [v85,v87] (v77))
 (.l)]
def k48:List (Nat×zE):=[(46,zwX),(49,zxX)]
def zza:zE:=[.m 36732 [v80,v79] (v80) (.m 36469 [v80,v92] (v92) (.m 36467 [v79,v85] (v85) (.o 35174 [v84,zNH] (v86))
 (.o 36468 [v84,v85] (v78)))
 (.m 36730 [v79,v79] (v79) (.o 36470 [v87,v92] (v92))
 (.o 36731 [v84,v79] (v84))))
 (.m 36994 [v84,v84] (v87) (.m 36734 [v83,v79] (v83) (.o 36733 [v87,v79] (v87))
 (.o 36992 [v85,v84] (v78)))
 (.m 37257 [v84,v80] (v89) (.o 37256 [v79,v80] (v80))
 (.l))),
 .m 36468 [v84,v92] (v92) (.o 36467 [v79,v92] (v92))
 (.l)]
def k49:List (Nat×zE):=[(49,zza)]
def zvR:zE:=[.m 36740 [v88,v79] (v88) (.m 36472 [v77,v92] (v92) (.m 36468 [v78,v92] (v92) (.o 36466 [v92,v92] (v92))
 (.o 36471 [v83,v92] (v92)))
 (.m 36733 [v91,v79] (v91) (.o 36729 [v92,v79] (v92))
 (.o 36735 [v89,v79] (v89))))
 (.m 36995 [v80,v78] (v81) (.m 36993 [v79,v78] (v78) (.o 36992 [v92,v78] (v92))
 (.o 36994 [v84,v78] (v77)))
 (.m 37519 [v79,v91] (v91) (.o 37255 [v92,v80] (v92))
 (.o 37523 [v83,v91] (v90))))]
def zv6:zE:=[.o 1841 [j 0] (v92)]
def k50:List (Nat×zE):=[(49,zvR),(69,zv6)]
def zwp:zE:=[.m 1843 [j 2] (v84) (.o 1842 [j 1] (v79))
 (.o 48082 [j 11184811] (zLG))]
def zyh:zE:=[.m 37263 [v82,v80] (j 1) (.m 36992 [v85,v84] (j (-1)) (.m 14979 [v93,zc6] (j 1) (.o 7683 [zci,zc6] (j 1))
 (.o 35726 [zci,v93] (j 1)))
 (.m 37261 [v77,v80] (j (-1)) (.o 36993 [v79,v84] (j (-1)))
 (.l)))
 (.m 38574 [v87,v82] (j (-1)) (.m 37522 [v91,v87] (j (-1)) (.o 37265 [v81,v80] (j (-1)))
 (.o 38054 [v81,v77] (j (-1))))
 (.m 57614 [zc6,v93] (j (-1)) (.o 39104 [v82,v81] (j 1))
 (.l)))]
def k51:List (Nat×zE):=[(69,zwp),(71,zyh)]
def zzg:zE:=[.m 37256 [v79,v80] (j (-1)) (.m 36731 [v78,v79] (j (-1)) (.m 36466 [v85,v85] (j 0) (.o 24283 [v93,zci] (j (-1)))
 (.o 36730 [v79,v79] (j 0)))
 (.m 36994 [v78,v78] (j 0) (.o 36733 [v87,v79] (j 1))
 (.o 36996 [v87,v78] (j 1))))
 (.m 38050 [v89,v89] (j 0) (.m 37258 [v80,v80] (j 0) (.o 37257 [v84,v80] (j (-1)))
 (.o 37521 [v80,v87] (j (-1))))
 (.m 38879 [v95,zci] (j 1) (.o 38875 [zc6,zci] (j (-1)))
 (.o 57616 [v97,v93] (j 1)))),
 .o 36994 [v84,v84] (j 0)]
def k52:List (Nat×zE):=[(71,zzg)]
def zwr:zE:=[.m 20636 [zz4,zci] (j 1) (.m 16987 [zci,zci] (j 0) (.o 1891 [zuU,zHl] (j 1))
 (.o 20635 [zCZ,zci] (j (-1))))
 (.m 37522 [v87,v87] (j 0) (.o 28996 [zuU,zxC] (j (-1)))
 (.l))]
def zyH:zE:=[.o 5358 [v79] (v79)]
def zx1:zE:=[.m 36995 [v80,v84] (v83) (.m 36729 [v92,v79] (v79) (.m 36467 [v79,v92] (v79) (.o 36466 [v92,v92] (v92))
 (.l))
 (.o 36992 [v92,v84] (v84)))
 (.m 37519 [v79,v87] (v83) (.m 37518 [v92,v87] (v87) (.o 37255 [v92,v80] (v80))
 (.l))
 (.o 38044 [v85,v89] (v83)))]
def k53:List (Nat×zE):=[(71,zwr),(73,zyH),(74,zx1)]
def zzs:zE:=[.m 37521 [v80,v91] (v92) (.m 36471 [v83,v92] (v83) (.m 36469 [v80,v92] (v80) (.o 36468 [v84,v92] (v84))
 (.l))
 (.m 37259 [v91,v80] (v92) (.o 36994 [v84,v78] (v92))
 (.l)))
 (.m 39100 [v87,v81] (v78) (.m 38049 [v83,v77] (v79) (.o 38048 [v87,v77] (v92))
 (.l))
 (.m 43841 [v88,v90] (v77) (.o 39102 [v89,v81] (v92))
 (.l)))]
def zzu:zE:=[.m 2150 [v5] (j 0) (.m 2148 [v1] (j 0) (.o 2147 [v0] (j 0))
 (.l))
 (.m 15521 [v12] (j 0) (.o 15007 [v23] (j 0))
 (.l))]
def k54:List (Nat×zE):=[(74,zzs),(86,zzu)]
def zx9:zE:=[.m 2152 [.str [54]] (j 0) (.m 2149 [v6] (j 0) (.o 2146 [v2] (j 0))
 (.o 2151 [v29] (j 0)))
 (.m 15011 [ztr] (j 0) (.o 2154 [v18] (j 0))
 (.o 15572 [zy7] (j 0)))]
def zrT:zE:=[.m 39538 [v73,v27] (v21) (.m 38986 [v8,v19] (v8) (.m 38985 [v9,v19] (v9) (.o 38463 [v28,v8] (v9))
 (.l))
 (.o 39511 [v9,v27] (v9)))
 (.m 40262 [zi1,v31] (v8) (.m 40038 [v8,v17] (v8) (.o 40037 [v9,v17] (v9))
 (.l))
 (.o 40263 [zvi,v31] (v28)))]
def k55:List (Nat×zE):=[(86,zx9),(130,zrT)]
def zq4:zE:=[.m 40260 [v36,v31] (v9) (.m 39555 [v16,v31] (v9) (.m 38459 [v9,v8] (v9) (.o 38458 [v22,v8] (v9))
 (.o 38460 [v8,v8] (v8)))
 (.m 40039 [v21,v17] (v9) (.o 39556 [zmZ,v31] (v19))
 (.o 40041 [v28,v17] (v9))))
 (.m 46370 [zzz,v69] (v19) (.m 42140 [v10,v41] (v41) (.o 40262 [zt7,v31] (v19))
 (.o 42142 [v8,v41] (v8)))
 (.m 61447 [zuL,zhW] (v41) (.o 47943 [zmS,v17] (v19))
 (.o 64035 [ztt,zhW] (v41)))),
 .o 38458 [v10,v8] (v8)]
def k56:List (Nat×zE):=[(130,zq4)]
def zrR:zE:=[.m 38723 [v8,v21] (v9) (.m 38462 [v19,v8] (v8) (.m 26622 [v9,v35] (v9) (.o 7341 [v24,v35] (v9))
 (.l))
 (.m 38722 [v9,v21] (v9) (.o 38721 [v10,v21] (v21))
 (.l)))
 (.m 39516 [v27,v27] (v27) (.m 39512 [v25,v27] (v8) (.o 38984 [v10,v19] (v19))
 (.l))
 (.m 46401 [v35,v21] (v9) (.o 42299 [v74,v8] (v9))
 (.l))),
 .m 38721 [v22,v21] (v9) (.o 38462 [v11,v8] (v9))
 (.o 38723 [v25,v21] (v9))]
def zqE:zE:=[.m 38749 [v73,v21] (v7) (.o 38727 [v27,v21] (v8))
 (.l)]
def k57:List (Nat×zE):=[(130,zrR),(148,zqE)]
def zsD:zE:=[.m 38992 [v17,v19] (v8) (.m 38203 [v17,v9] (v17) (.m 38199 [v19,v9] (v19) (.m 38197 [v8,v9] (v8) (.o 38196 [v9,v9] (v9))
 (.l))
 (.o 38201 [v27,v9] (v27)))
 (.m 38462 [v19,v8] (v8) (.o 38460 [v8,v8] (v9))
 (.o 38466 [v17,v8] (v19))))
 (.m 40662 [zvi,v28] (v32) (.m 39872 [zi1,v8] (v16) (.o 39458 [v31,v8] (v13))
 (.o 40247 [v31,v28] (v20)))
 (.m 46891 [zmS,v19] (.agg [j 1,zA4]) (.o 44631 [zFR,zac] (zBX))
 (.o 51269 [zH8,zac] (zJX))))]
def k58:List (Nat×zE):=[(148,zsD)]
def zsA:zE:=[.m 37218 [zBl,v68] (zCI) (.m 23221 [zIB,zac] (zC2) (.m 15847 [zF4,zac] (zBl) (.m 12502 [zC2,zJ3] (.agg [j 1,v56]) (.o 1506 [zEW,zac] (zIT))
 (.l))
 (.o 16985 [zHh,zac] (zEy)))
 (.m 26707 [zG1,zac] (zJf) (.o 25241 [zEE,zac] (zJ0))
 (.o 35418 [zCk,.agg [j 56,.nils]] (zCq))))
 (.m 45348 [zBX,v8] (.agg [j 1,v51]) (.m 39824 [zE6,zac] (zB6) (.o 39132 [zB6,.agg [j 90,.nils]] (.agg [j 1,v54]))
 (.o 44138 [zLz,zac] (zKM)))
 (.m 54294 [zKt,zac] (zA7) (.o 51549 [zA7,.agg [j 132,.nils]] (zBZ))
 (.o 58347 [zEG,zac] (zCk))))]
def k59:List (Nat×zE):=[(148,zsA)]
def zrb:zE:=[.m 40594 [zDU,zac] (zzK) (.m 8933 [zEs,zac] (zCG) (.m 6417 [zHX,zac] (zJD) (.m 5976 [zJq,zac] (zCV) (.o 5494 [zC0,.agg [j 462,.nils]] (.agg [j 1,v62]))
 (.l))
 (.o 6609 [zGT,zac] (zGA)))
 (.m 17484 [zCG,.agg [j 306,.nils]] (.agg [j 1,v53]) (.o 10208 [zGV,zac] (zLo))
 (.o 21468 [zCo,.agg [j 182,.nils]] (.agg [j 1,v55]))))
 (.m 50063 [zIF,zac] (zEx) (.m 46549 [zFG,zac] (zC0) (.o 45093 [zGo,zac] (zHm))
 (.o 49018 [zHx,zac] (zCo)))
 (.m 58276 [zCV,.agg [j 380,.nils]] (zBJ) (.o 52971 [zII,zac] (zGm))
 (.o 58578 [zzK,.agg [j 240,.nils]] (zzU))))]
def k60:List (Nat×zE):=[(148,zrb)]
def zsc:zE:=[.m 30325 [zFS,zac] (zLP) (.m 13230 [zFA,zac] (zz5) (.m 9243 [zEv,zac] (zzQ) (.m 8107 [zB4,.agg [j 650,.nils]] (zFQ) (.o 1584 [zzT,.agg [j 992,.nils]] (v61))
 (.l))
 (.o 9739 [zFP,zac] (v64)))
 (.m 26135 [zFv,zac] (v58) (.o 16322 [zEp,zac] (zH2))
 (.o 27885 [zEh,zac] (zAw))))
 (.m 35274 [zJz,zac] (zB4) (.m 31596 [zAw,.agg [j 552,.nils]] (zAi) (.o 30929 [zD2,zac] (zzT))
 (.o 32606 [zD9,zac] (v57)))
 (.m 46446 [zz5,.agg [j 756,.nils]] (v59) (.o 43783 [zJF,zac] (zBP))
 (.o 61455 [zzQ,.agg [j 870,.nils]] (v63))))]
def k61:List (Nat×zE):=[(148,zsc)]
def zqM:zE:=[.m 39692 [zmZ,v19] (v30) (.m 18972 [zLn,zac] (zAe) (.m 18179 [zBP,.agg [j 1122,.nils]] (v60) (.m 15280 [zJP,zac] (v70) (.o 6351 [zhW,v41] (zA5))
 (.l))
 (.o 18392 [zKE,zac] (v37)))
 (.m 38902 [v16,v9] (v16) (.o 29390 [zKP,zac] (v65))
 (.o 39195 [v31,v9] (v31))))
 (.m 46786 [zLA,zac] (zAT) (.m 43138 [zuL,v41] (.agg [j 1,zyr]) (.o 42308 [zAT,.agg [j 1406,.nils]] (v71))
 (.o 45726 [ztt,v41] (.agg [j 1,zvX])))
 (.m 57597 [zGk,zac] (v66) (.o 55096 [v37,.agg [j 1560,.nils]] (v10))
 (.o 64765 [zAe,.agg [j 1260,.nils]] (v67))))]
def k62:List (Nat×zE):=[(148,zqM)]
def zrw:zE:=[.m 39016 [v69,v19] (v17) (.m 38200 [v28,v9] (v28) (.m 38198 [v21,v9] (v21) (.m 38195 [v22,v9] (v22) (.o 18915 [v24,v9] (v24))
 (.l))
 (.o 38199 [v11,v9] (v11)))
 (.m 38474 [v41,v8] (v17) (.o 38458 [v10,v8] (v10))
 (.o 39006 [zzz,v19] (v11))))
 (.m 42036 [v74,v9] (v74) (.m 39984 [v31,v19] (v33) (.o 39607 [v36,v9] (v36))
 (.o 40398 [zt7,v19] (v34)))
 (.m 42156 [v41,v41] (v9) (.o 42140 [v10,v41] (v10))
 (.o 45875 [v35,v9] (v35))))]
def k63:List (Nat×zE):=[(148,zrw)]
def zrh:zE:=[.m 38724 [v21,v21] (v9) (.m 38464 [v27,v8] (v21) (.m 38460 [v25,v8] (v22) (.o 38197 [v25,v9] (v25))
 (.l))
 (.o 38721 [v10,v21] (v10)))
 (.m 38988 [v19,v19] (v9) (.o 38984 [v10,v19] (v10))
 (.o 39516 [v27,v27] (v9)))]
def zqI:zE:=[.m 30897 [v98] (v22) (.m 23598 [zmX] (v10) (.m 9013 [zul] (v11) (.o 5460 [.agg [j 1,zvX,j 1,zw0]] (v16))
 (.l))
 (.o 30894 [zc6] (v10)))
 (.m 39727 [v86] (v40) (.o 38940 [zI6] (zbk))
 (.o 54439 [.agg [j 1,zyr,j 1,zw0]] (v16)))]
def k64:List (Nat×zE):=[(148,zrh),(149,zqI)]
def zsK:zE:=[.m 16302 [v93] (v10) (.m 12846 [ztE] (zGb) (.o 5357 [v92] (v10))
 (.l))
 (.o 20333 [zuk] (zpF))]
def zsE:zE:=[.m 55282 [v8,j 11] (v44) (.m 52660 [v37,j 1] (v37) (.m 52651 [v9,j 1] (v9) (.o 26 [v37,j 50] (zac))
 (.o 52652 [v8,j 1] (v8)))
 (.m 53186 [v37,j 3] (v31) (.o 52923 [v37,j 2] (v42))
 (.l)))
 (.m 58963 [v9,j 25] (v9) (.m 57131 [v37,j 18] (v47) (.o 56342 [v37,j 15] (v49))
 (.l))
 (.m 64758 [v37,j 47] (zhW) (.o 58964 [v8,j 25] (v35))
 (.l)))]
def k65:List (Nat×zE):=[(149,zsK),(155,zsE)]
def zqg:zE:=[.m 58700 [v9,j 24] (v9) (.o 54501 [v37,j 8] (v48))
 (.o 58701 [v8,j 24] (v76))]
def ztm:zE:=[.m 40798 [v2,v0] (.agg [v2,v2,v0,v0]) (.m 17957 [v0,v26] (.agg [v0,v0,v26,v26]) (.o 15889 [v6,v23] (zIg))
 (.l))
 (.m 41855 [v29,v29] (.agg [v29,v29,v29,v29]) (.o 41062 [v0,v1] (zyx))
 (.l))]
def zsk:zE:=[.m 11349 [j 5,j 1,j 12] (j 0) (.m 11347 [j 3,j 1,j 12] (j 0) (.o 11346 [j 2,j 1,j 12] (j 0))
 (.l))
 (.m 49423 [j 3,j 0,j 256] (j 0) (.o 43068 [j 1,j 1,j 2147483646] (j 0))
 (.l))]
def zqh:zE:=[.o 48388 [zBR] (zmg),
 .o 48388 [zmg] (zBR)]
def zqG:zE:=[.o 23873 [.flt .f64 4712266410284285952,j 0] (.bool false)]
def k66:List (Nat×zE):=[(155,zqg),(196,ztm),(206,zsk),(222,zqh),(245,zqG)]
def zrH:zE:=[.o 30434 [.flt .f64 4710765210229538816,j 0] (.bool false)]
def zp7:zE:=[.m 6739 [.flt .f64 4710765210229538816] (.tup [.flt .f64 4710765210229538816,j 0]) (.o 178 [.flt .f64 4712266410284285952] (.tup [.flt .f64 4712266410284285952,j 0]))
 (.l)]
def k67:List (Nat×zE):=[(245,zrH),(247,zp7)]
def t2:Tr zE:=(.n 130 (zrT++zq4++zrR) (.n 71 (zyh++zzg++zwr) (.n 49 (zxX++zza++zvR) (.n 46 (zw5++zwX) (.n 28 zv2 .l .l) .l) (.n 69 (zv6++zwp) .l .l)) (.n 74 (zx1++zzs) (.n 73 zyH .l .l) (.n 86 (zzu++zx9) .l .l))) (.n 206 zsk (.n 155 (zsE++zqg) (.n 149 (zqI++zsK) (.n 148 (zqE++zsD++zsA++zrb++zsc++zqM++zrw++zrh) .l .l) .l) (.n 196 ztm .l .l)) (.n 245 (zqG++zrH) (.n 222 zqh .l .l) (.n 247 zp7 .l .l))))
def T2:List (Tr zE):=t2::T1
def zyB:zE:=[.o 36466 [v92,v92] (v92)]
def zsI:zE:=[.m 40038 [v8,v17] (v93) (.m 39511 [v9,v27] (zmX) (.m 38985 [v9,v19] (v93) (.o 38459 [v9,v8] (zci))
 (.o 38986 [v8,v19] (zci)))
 (.m 39556 [zmZ,v31] (zB7) (.o 39555 [v16,v31] (zB5))
 (.o 40037 [v9,v17] (zc6))))
 (.m 46370 [zzz,v69] (v98) (.m 40263 [zvi,v31] (zBi) (.o 40262 [zi1,v31] (zC6))
 (.o 40577 [zuN,v14] (zul)))
 (.m 61447 [zuL,zhW] (.agg [j 1,zyr,j 1,zw0]) (.o 47943 [zmS,v17] (zI6))
 (.o 64035 [ztt,zhW] (.agg [j 1,zvX,j 1,zw0]))))]
def k68:List (Nat×zE):=[(50,zyB),(101,zsI)]
def zsz:zE:=[.m 40039 [v21,v17] (v97) (.m 38459 [v9,v25] (v99) (.m 26622 [v9,v35] (zCC) (.o 7341 [v24,v35] (zC1))
 (.o 38458 [v10,v8] (v92)))
 (.m 38462 [v19,v8] (v84) (.o 38460 [v8,v8] (v79))
 (.o 38723 [v8,v21] (zz4))))
 (.m 42140 [v10,v41] (v92) (.m 40260 [v36,v31] (zBF) (.o 40041 [v28,v17] (v95))
 (.o 40262 [zt7,v31] (zBS)))
 (.m 42299 [v74,v8] (ztE) (.o 42142 [v8,v41] (zc6))
 (.o 46401 [v35,v21] (zuk)))),
 .o 38458 [v22,v8] (v99)]
def k69:List (Nat×zE):=[(101,zsz)]
def zsd:zE:=[.m 38984 [v10,v19] (v92) (.m 38721 [v10,v21] (v92) (.o 38462 [v11,v8] (zoe))
 (.o 38723 [v25,v21] (zh4)))
 (.m 39512 [v25,v27] (zpa) (.o 38986 [v8,v11] (zh4))
 (.o 39516 [v27,v27] (v79))),
 .o 38721 [v22,v21] (zpa)]
def zsm:zE:=[.m 2154 [v18] (v17) (.m 2150 [v5] (v19) (.m 2148 [v1] (v8) (.o 2147 [v0] (v9))
 (.l))
 (.o 2151 [v29] (v28)))
 (.m 15521 [v12] (v11) (.o 15007 [v23] (v22))
 (.o 16035 [.str [45,53]] (v7)))]
def k70:List (Nat×zE):=[(101,zsd),(110,zsm)]
def zti:zE:=[.m 6518 [.str [51,49,52,49,53,57,50,54,53,51,53,56,57,55,57,51,50,51,56,52,54,50,54,52,51,51,56,51,50,55,57,53,48,50,56,56,52,49,57,55,49,54,57,51,57,57,51,55,53,49,48]] (zKJ) (.m 2149 [v6] (v21) (.o 2146 [v2] (v10))
 (.o 2152 [.str [54]] (v27)))
 (.m 15572 [zy7] (v74) (.o 15011 [ztr] (v72))
 (.l))]
def zqo:zE:=[.m 41249 [zMV] (.fsl true 1 2 [v1,v0]) (.m 28005 [zKo] (.fsl true 1 3 [v0,v2,v4]) (.o 6710 [zA0] (.fsl true 1 3 [v2,v0,v3]))
 (.l))
 (.m 55533 [zOm] (.fsl true 1 2 [v5,v6]) (.o 48389 [zO1] (.fsl true 1 2 [v0,v1]))
 (.l))]
def zta:zE:=[.m 44486 [.vsl true 2 [v5,v18]] (j 0) (.m 43433 [zBH] (j 0) (.o 42905 [znG] (j 0))
 (.l))
 (.m 56805 [.vsl true 2 [v12,v5]] (j 0) (.o 55765 [.vsl true 2 [v23,v1]] (j 0))
 (.l))]
def k71:List (Nat×zE):=[(110,zti),(123,zqo),(161,zta)]
def zqX:zE:=[.m 42642 [.vsl true 2 [v0,v0]] (j 0) (.m 30590 [.vsl true 2 [v23,v23]] (j 0) (.m 18786 [.vsl true 2 [v29,ztr]] (j 0) (.o 5873 [zAJ] (j 0))
 (.l))
 (.m 42641 [zAH] (j 0) (.o 42379 [zAC] (j 0))
 (.l)))
 (.m 43170 [.vsl true 2 [v6,v6]] (j 0) (.m 43169 [.vsl true 2 [v1,v6]] (j 0) (.o 42906 [.vsl true 2 [v1,v1]] (j 0))
 (.l))
 (.o 59923 [zzN] (j 0)))]
def zqz:zE:=[.o 26326 [j 1,j 3] (.tup [.fsl false 1 3 [j 0,j 2,j 1],j 0])]
def zrf:zE:=[.m 9013 [zul] (.tup [zvh,j 0]) (.o 5361 [v91] (.tup [v12,j 0]))
 (.l)]
def ztk:zE:=[.m 38580 [v81,v82] (zCb) (.o 37518 [v92,v87] (.tup [.agg [v2,v5],j 0]))
 (.o 38875 [zc6,zci] (zKx))]
def k72:List (Nat×zE):=[(161,zqX),(180,zqz),(208,zrf),(214,ztk)]
def zrx:zE:=[.m 36730 [v79,v79] (.tup [zx5,j 0]) (.m 29027 [zC6,zBi] (zGy) (.o 389 [zB5,zB7] (zHb))
 (.o 29494 [zBS,zBF] (zDO)))
 (.m 37786 [v83,v83] (.tup [.agg [v29,v29],j 0]) (.o 36994 [v78,v78] (.tup [.agg [v26,v26],j 0]))
 (.l))]
def zqv:zE:=[.o 1844 [j 3] (j 0)]
def zrP:zE:=[.m 10849 [zlf,zGg] (zzq) (.o 3138 [zyN,zmg] (zzq))
 (.o 25702 [zy5,zMw] (zzq))]
def zqU:zE:=[.m 40917 [zNO,.fn (.f 71) [] []] (v85) (.m 22010 [zOH,.fn (.f 71) [] []] (v78) (.o 17253 [zNv,.fn (.f 71) [] []] (v78))
 (.o 31477 [zM9,.fn (.f 71) [] []] (zc6)))
 (.m 53609 [zOi,.fn (.f 71) [] []] (v81) (.o 45317 [zNI,.fn (.f 71) [] []] (v80))
 (.l))]
def k73:List (Nat×zE):=[(214,zrx),(215,zqv),(223,zrP),(233,zqU)]
def zs3:zE:=[.m 22163 [.vsl true 2 [j 4,.nils,j 1,.nils,j 4,.nils,j 1,.nils],.fn (.f 71) [] []] (v87) (.m 3103 [zO8,.fn (.f 71) [] []] (v87) (.o 737 [.vsl true 2 [j 1,.nils,j 1,.nils,j 1,.nils,j 1,.nils],.fn (.f 71) [] []] (v79))
 (.l))
 (.m 64224 [zOE,.fn (.f 71) [] []] (v79) (.o 49717 [zOK,.fn (.f 71) [] []] (v89))
 (.l))]
def zs0:zE:=[.m 40917 [zNO,.fn (.f 71) [] []] (v85) (.m 22010 [zOH,.fn (.f 71) [] []] (v78) (.m 17253 [zNv,.fn (.f 71) [] []] (v87) (.o 3103 [zO8,.fn (.f 71) [] []] (v87))
 (.l))
 (.o 31477 [zM9,.fn (.f 71) [] []] (zci)))
 (.m 53609 [zOi,.fn (.f 71) [] []] (v82) (.m 49717 [zOK,.fn (.f 71) [] []] (v89) (.o 45317 [zNI,.fn (.f 71) [] []] (v80))
 (.l))
 (.o 64224 [zOE,.fn (.f 71) [] []] (v79)))]
def zsN:zE:=[.m 1891 [j 50] (zac) (.o 1844 [j 3] (v31))
 (.l)]
def k74:List (Nat×zE):=[(233,zs3),(234,zs0),(236,zsN)]
def zs1:zE:=[.o 1888 [j 47] (zhW)]
def zrQ:zE:=[.m 28694 [v8] (v9) (.o 28693 [v9] (v9))
 (.o 63062 [v40] (zi1))]
def zsT:zE:=[.m 22882 [zBU,zBU,v79,v92] (.fsl false 4 3 [j 1,.nils,j 1,.nils,j 2,.nils,j 1,.nils,j 3,.nils,j 1,.nils]) (.m 17414 [zOS,zvU,v79,v91] (.fsl false 4 3 [j 0,.nils,j 1,.nils,j (-2),.nils,j 1,.nils,j (-4),.nils,j 1,.nils]) (.o 6694 [zvU,zOn,v79,v78] (.fsl false 4 3 [j 1,.nils,j 1,.nils,j 0,.nils,j 1,.nils,j 1,.nils,j 1,.nils]))
 (.l))
 (.m 50957 [zvU,zvU,v79,v92] (.fsl false 4 3 [j 1,.nils,j 1,.nils,j 2,.nils,j 1,.nils,j 5,.nils,j 1,.nils]) (.o 46012 [zGI,zM7,v79,v78] (.fsl false 4 3 [j 0,.nils,j 1,.nils,j 0,.nils,j 1,.nils,j 0,.nils,j 1,.nils]))
 (.l))]
def zqQ:zE:=[.m 35366 [v84,j 24] (zHl) (.o 29317 [v84,j 1] (v84))
 (.o 35629 [v84,j 25] (zxC))]
def zrK:zE:=[.m 36497 [.flt .f64 4712266410284285952,j (-25)] (.flt .f64 4599676419600023552) (.o 30697 [.flt .f64 4710765210229538816,j 1] (.flt .f64 4715268809856909312))
 (.l)]
def k75:List (Nat×zE):=[(236,zs1),(237,zrQ),(240,zsT),(241,zqQ),(243,zrK)]
def t3:Tr zE:=(.n 215 zqv (.n 161 (zta++zqX) (.n 110 (zsm++zti) (.n 101 (zsI++zsz++zsd) (.n 50 zyB .l .l) .l) (.n 123 zqo .l .l)) (.n 208 zrf (.n 180 zqz .l .l) (.n 214 (ztk++zrx) .l .l))) (.n 237 zrQ (.n 234 zs0 (.n 233 (zqU++zs3) (.n 223 zrP .l .l) .l) (.n 236 (zsN++zs1) .l .l)) (.n 241 zqQ (.n 240 zsT .l .l) (.n 243 zrK .l .l))))
def T3:List (Tr zE):=t3::T2
def zyM:zE:=[.m 32078 [v79,v93] (v93) (.m 13076 [v79,v99] (v99) (.m 11941 [.agg [j 1,v45,j 1,.nils],zc6] (zI6) (.m 4036 [v84,zc6] (v93) (.o 4035 [v79,zc6] (zc6))
 (.l))
 (.o 13075 [v92,v99] (v92)))
 (.m 13081 [v77,v99] (v84) (.o 13077 [v78,v99] (v79))
 (.o 17179 [zuU,zci] (ztE))))
 (.m 40903 [v99,v80] (zoe) (.m 32452 [zCZ,zxC] (zuk) (.o 32079 [v84,v93] (zci))
 (.o 40118 [zoe,v92] (v92)))
 (.m 56542 [zLG,zCC] (zC1) (.o 55731 [v92,zh4] (v92))
 (.o 59383 [zoe,zh4] (v79))))]
def k76:List (Nat×zE):=[(49,zyM)]
def zyd:zE:=[.m 20636 [zh4,zci] (zpa) (.m 13339 [v79,zci] (zci) (.o 13338 [v92,zci] (v92))
 (.l))
 (.m 55732 [v79,zh4] (zh4) (.o 40377 [v99,v79] (v99))
 (.l))]
def zzl:zE:=[.m 15007 [v23] (v85) (.m 2149 [v6] (v80) (.m 2148 [v1] (v84) (.o 2147 [v0] (v79))
 (.l))
 (.m 2154 [v18] (v82) (.o 2150 [v5] (v87))
 (.l)))
 (.m 47135 [ztu] (zmX) (.m 27639 [zvh] (zul) (.o 15521 [v12] (v91))
 (.l))
 (.m 54535 [zCH] (zD6) (.o 48191 [zn6] (zc6))
 (.l)))]
def k77:List (Nat×zE):=[(49,zyd),(62,zzl)]
def zxF:zE:=[.m 15011 [ztr] (v88) (.m 2151 [v29] (v83) (.o 2146 [v2] (v92))
 (.o 2152 [.str [54]] (v89)))
 (.m 45551 [zBk] (zCZ) (.o 15572 [zy7] (zuU))
 (.o 46079 [ztL] (v93)))]
def zzm:zE:=[.m 5365 [v82] (zc6) (.m 5361 [v87] (v93) (.o 5359 [v78] (v99))
 (.l))
 (.m 13037 [zxC] (zCC) (.o 9009 [zoe] (zh4))
 (.l)),
 .o 5359 [v84] (zci)]
def zys:zE:=[.m 57350 [zD6,v94] (v98) (.o 54707 [zmX,v92] (zmX))
 (.o 62003 [zc6,v92] (zc6))]
def k78:List (Nat×zE):=[(62,zxF),(73,zzm),(74,zys)]
def zzi:zE:=[.m 42759 [v93,v94] (v92) (.m 14127 [v92,zoe] (zoe) (.m 5876 [v79,v96] (v97) (.o 5013 [ztE,zOe] (zci))
 (.o 8472 [zci,v98] (zc6)))
 (.m 40114 [v99,v92] (v99) (.o 16986 [v99,zci] (v92))
 (.l)))
 (.m 55205 [v92,zpa] (zpa) (.m 47411 [v93,v92] (v93) (.o 43764 [zh4,v92] (zh4))
 (.l))
 (.m 64865 [zuk,zOg] (zz4) (.o 62269 [v98,v79] (v95))
 (.l)))]
def zx3:zE:=[.m 48191 [zn6] (j 0) (.m 47135 [ztu] (j 0) (.o 27639 [zvh] (j 0))
 (.l))
 (.o 54535 [zCH] (j 0))]
def k79:List (Nat×zE):=[(74,zzi),(86,zx3)]
def zzp:zE:=[.m 46079 [ztL] (j 0) (.o 45551 [zBk] (j 0))
 (.l)]
def zsw:zE:=[.m 2922 [zBH,.vptr [znE]] (j 0) (.m 2130 [zAH,.vptr [zpj]] (j 0) (.o 1868 [zAC,.vptr [zpj]] (j 0))
 (.o 2394 [znG,.vptr [znE]] (j 0)))
 (.m 30883 [zAJ,.vptr [zol]] (j 0) (.o 19412 [zzN,.vptr [zol]] (j 0))
 (.l))]
def ztj:zE:=[.o 28181 [j 15,j (-6)] (.tup [zvh,j 0])]
def zqm:zE:=[.o 29578 [v92,j 2] (.tup [zx5,j 0])]
def ztl:zE:=[.m 39522 [zmg,zy5] (zBR) (.m 32380 [zlf,zy5] (zy5) (.o 10617 [zlf,zlf] (zlf))
 (.o 32612 [zlf,zyN] (zyN)))
 (.m 60989 [zBb,zBb] (.agg [j (-2),.nils,j 1,.nils,j 4,.nils,j 1,.nils]) (.o 39754 [zmg,zyN] (zMw))
 (.l))]
def k80:List (Nat×zE):=[(86,zzp),(126,zsw),(185,ztj),(218,zqm),(221,ztl)]
def zsX:zE:=[.o 61517 [zmg,zmg] (zGg)]
def zqq:zE:=[.m 54375 [zlf,zBR] (zNc) (.o 17654 [zzq,zzq] (zN0))
 (.l)]
def zqf:zE:=[.m 35247 [.vsl false 2 [zMV,zOm]] (.tup [.fsl false 1 2 [zua,ztv],j 0]) (.o 23670 [.vsl true 2 [zKo,zA0]] (.tup [.fsl false 1 2 [zuV,ztB],j 0]))
 (.o 50231 [.vsl true 1 [zO1]] (.tup [.fsl false 1 1 [znG],j 0]))]
def zsW:zE:=[.o 1730 [.vsl false 2 [zBU,zGI]] (.tup [.fsl false 1 1 [zM7],.fsl false 1 1 [j 0]])]
def zq2:zE:=[.m 1866 [j 25] (zxC) (.o 1865 [j 24] (zHl))
 (.l)]
def zrN:zE:=[.m 36497 [.flt .f64 4712266410284285952,j (-25)] (.flt .f64 4599676419600023552) (.o 30697 [.flt .f64 4710765210229538816,j 1] (.flt .f64 4715268809856909312))
 (.l)]
def zqk:zE:=[.o 5359 [v84] (.tup [v79,.bool false])]
def k81:List (Nat×zE):=[(221,zsX),(224,zqq),(226,zqf),(227,zsW),(228,zq2),(230,zrN),(235,zqk)]
def t4:Tr zE:=(.n 218 zqm (.n 74 (zys++zzi) (.n 62 (zzl++zxF) (.n 49 (zyM++zyd) .l .l) (.n 73 zzm .l .l)) (.n 126 zsw (.n 86 (zx3++zzp) .l .l) (.n 185 ztj .l .l))) (.n 227 zsW (.n 224 zqq (.n 221 (ztl++zsX) .l .l) (.n 226 zqf .l .l)) (.n 230 zrN (.n 228 zq2 .l .l) (.n 235 zqk .l .l))))
def T4:List (Tr zE):=t4::T3
def zvW:zE:=[.m 47411 [v93,v92] (v93) (.m 24747 [ztE,zIO] (zci) (.m 8209 [zci,v97] (zc6) (.o 5087 [v79,v95] (v97))
 (.l))
 (.m 43022 [v93,v93] (v92) (.o 25656 [zuk,zHT] (zz4))
 (.l)))
 (.m 62003 [zc6,v92] (zc6) (.m 57613 [zD6,v93] (v98) (.o 54707 [zmX,v92] (zmX))
 (.l))
 (.o 62006 [v98,v85] (v95)))]
def zwq:zE:=[.m 38571 [v79,v82] (zc6) (.m 37520 [v84,v87] (zci) (.o 37519 [v79,v87] (v93))
 (.l))
 (.o 38572 [v84,v82] (v93))]
def zwP:zE:=[.m 56805 [.vsl true 2 [v12,v5]] (.fsl true 4 2 [j (-3),.nils,j 1,.nils,j 4,.nils,j 1,.nils]) (.o 55765 [.vsl true 2 [v23,v1]] (.fsl true 4 2 [j (-1),.nils,j 1,.nils,j 2,.nils,j 1,.nils]))
 (.l)]
def k82:List (Nat×zE):=[(50,zvW),(70,zwq),(88,zwP)]
def zvL:zE:=[.m 42905 [znG] (.fsl true 4 2 [j 1,.nils,j 1,.nils,j 2,.nils,j 1,.nils]) (.m 42379 [zAC] (.fsl true 4 2 [j 1,.nils,j 1,.nils,j 0,.nils,j 1,.nils]) (.o 5873 [zAJ] (.fsl true 4 3 [j 2,.nils,j 1,.nils,j 4,.nils,j 1,.nils,j 6,.nils,j 1,.nils]))
 (.o 42641 [zAH] (.fsl true 4 2 [j 0,.nils,j 1,.nils,j 1,.nils,j 1,.nils])))
 (.m 44486 [.vsl true 2 [v5,v18]] (.fsl true 4 2 [j 4,.nils,j 1,.nils,j 8,.nils,j 1,.nils]) (.o 43433 [zBH] (.fsl true 4 2 [j 3,.nils,j 1,.nils,j 4,.nils,j 1,.nils]))
 (.o 59923 [zzN] (.fsl true 4 3 [j 1,.nils,j 1,.nils,j 2,.nils,j 1,.nils,j 3,.nils,j 1,.nils])))]
def zra:zE:=[.m 24621 [znE,.fn (.f 126) [] [.vptr [znE]]] (j 0) (.o 9239 [zpj,.fn (.f 126) [] [.vptr [zpj]]] (j 0))
 (.o 57030 [zol,.fn (.f 126) [] [.vptr [zol]]] (j 0))]
def zri:zE:=[.o 27639 [zvh] (.tup [v12,j 0])]
def zsV:zE:=[.m 44484 [zz1] (j 0) (.m 43431 [.agg [v6,v5]] (j 0) (.o 42903 [zvm] (j 0))
 (.l))
 (.m 56803 [zwH] (j 0) (.o 55763 [zps] (j 0))
 (.l))]
def k83:List (Nat×zE):=[(88,zvL),(127,zra),(186,zri),(210,zsV)]
def zqD:zE:=[.m 42904 [.agg [v1,v1]] (j 0) (.m 42640 [zx5] (j 0) (.o 30588 [.agg [v23,v23]] (j 0))
 (.l))
 (.m 43168 [.agg [v6,v6]] (j 0) (.o 43167 [.agg [v1,v6]] (j 0))
 (.l))]
def zqr:zE:=[.m 42904 [.agg [v1,v1]] (zmg) (.m 42640 [zx5] (zlf) (.o 30588 [.agg [v23,v23]] (zy5))
 (.l))
 (.m 55763 [zps] (zBb) (.o 43168 [.agg [v6,v6]] (zyN))
 (.l))]
def zqC:zE:=[.m 48386 [zBb] (.agg [j 0,.nils,j 1,.nils,j 4,.nils,j 1,.nils]) (.o 41246 [zlf] (zlf))
 (.o 48388 [zmg] (zGg))]
def zqy:zE:=[.o 29843 [v84,j 3] (zGy)]
def zrc:zE:=[.m 7154 [zn6,j 3] (j 0) (.o 6624 [ztu,j 5] (j 0))
 (.l)]
def k84:List (Nat×zE):=[(210,zqD),(212,zqr),(213,zqC),(216,zqy),(217,zrc)]
def zqd:zE:=[.m 13498 [zCH,j 3] (j 0) (.o 4779 [ztL,j 2] (j 0))
 (.l)]
def zs7:zE:=[.m 1889 [j (-25)] (zCC) (.o 1841 [j (-1)] (zci))
 (.l)]
def zqi:zE:=[.m 35092 [zOF,zNY,v79,v80] (.fsl false 4 3 [j 0,.nils,j 1,.nils,j (-3),.nils,j 2,.nils,j 1,.nils,j 1,.nils]) (.m 32172 [zKr,zKr,v99,v92] (.fsl false 4 3 [j 1,.nils,j 1,.nils,j (-1),.nils,j 2,.nils,j 0,.nils,j 1,.nils]) (.o 24528 [zNY,zA0,v79,zci] (.fsl false 4 3 [j 1,.nils,j 1,.nils,j 0,.nils,j 1,.nils,j (-1),.nils,j 3,.nils]))
 (.l))
 (.m 64653 [zOB,zOB,zh4,v92] (.fsl false 4 3 [j 0,.nils,j 1,.nils,j 1,.nils,j 1,.nils,j (-2),.nils,j 3,.nils]) (.o 35463 [zNq,zNq,v99,v92] (.fsl false 4 3 [j 0,.nils,j 1,.nils,j 1,.nils,j 1,.nils,j 2,.nils,j 1,.nils]))
 (.l))]
def zsh:zE:=[.o 2218 [zc6,j 50] (zzO)]
def k85:List (Nat×zE):=[(217,zqd),(228,zs7),(240,zqi),(244,zsh)]
def t5:Tr zE:=(.n 212 zqr (.n 127 zra (.n 70 zwq (.n 50 zvW .l .l) (.n 88 (zwP++zvL) .l .l)) (.n 210 (zsV++zqD) (.n 186 zri .l .l) .l)) (.n 228 zs7 (.n 216 zqy (.n 213 zqC .l .l) (.n 217 (zrc++zqd) .l .l)) (.n 244 zsh (.n 240 zqi .l .l) .l)))
def T5:List (Tr zE):=t5::T4
def zyw:zE:=[.m 49750 [zpj] (j 0) (.o 32020 [zol] (j 0))
 (.o 65132 [znE] (j 0))]
def zqN:zE:=[.o 55763 [zps] (.tup [.agg [v2,v5],j 0])]
def zqO:zE:=[.m 62761 [zvm,.agg [v6,v5]] (.tup [j (-1),j 0]) (.o 58850 [zvm,.agg [v1,v6]] (.tup [j 0,j 24]))
 (.l)]
def zro:zE:=[.o 26632 [v1,j 3] (zGy)]
def zrW:zE:=[.m 37625 [zvm,zz1,.fn (.f 70) [] []] (zKx) (.o 14332 [zps,zwH,.fn (.f 49) [] []] (zCb))
 (.l)]
def zsY:zE:=[.m 48608 [zmX,j 5] (zO7) (.o 40523 [v93,j 2] (.tup [.agg [v2,v2],j 0]))
 (.l)]
def zrB:zE:=[.m 53088 [zIg] (j 0) (.o 33922 [zyx] (j 0))
 (.l)]
def zqB:zE:=[.m 49750 [zpj] (.fsl false 1 2 [.vsl true 2 [j 0,.nils,j 1,.nils,j 1,.nils,j 1,.nils],.vsl true 2 [j 1,.nils,j 1,.nils,j 0,.nils,j 1,.nils]]) (.o 32020 [zol] (.fsl false 1 2 [zBU,zGI]))
 (.o 65132 [znE] (.fsl false 1 2 [.vsl true 2 [j 1,.nils,j 1,.nils,j 2,.nils,j 1,.nils],.vsl true 2 [j 3,.nils,j 1,.nils,j 4,.nils,j 1,.nils]]))]
def k86:List (Nat×zE):=[(84,zyw),(190,zqN),(191,zqO),(192,zro),(211,zrW),(218,zsY),(220,zrB),(225,zqB)]
def zqF:zE:=[.m 49312 [.vsl false 2 [zvU,zOS]] (.tup [.fsl true 1 2 [.vsl false 3 [j 1,.nils,j 1,.nils,j 0,.nils,j 1,.nils,j 1,.nils,j 1,.nils],zOn],.fsl false 1 2 [j 0,j 1]]) (.o 17358 [.vsl false 2 [zKr,zOF]] (.tup [.fsl true 1 2 [zKo,zA0],.fsl false 1 2 [j 0,j 1]]))
 (.l)]
def zqj:zE:=[.m 20333 [zuk] (j 11184811) (.o 12846 [ztE] (j 8388608))
 (.l)]
def zrq:zE:=[.o 24078 [.flt .f32 1051372203] (zC1)]
def zr4:zE:=[.o 55378 [zc6,j 3] (v16)]
def k87:List (Nat×zE):=[(227,zqF),(229,zqj),(232,zrq),(239,zr4)]
def t6:Tr zE:=(.n 220 zrB (.n 192 zro (.n 190 zqN (.n 84 zyw .l .l) (.n 191 zqO .l .l)) (.n 218 zsY (.n 211 zrW .l .l) .l)) (.n 229 zqj (.n 227 zqF (.n 225 zqB .l .l) .l) (.n 239 zr4 (.n 232 zrq .l .l) .l)))
def T6:List (Tr zE):=t6::T5
def zse:zE:=[.o 12095 [zvm,zz1] (zKx)]
def zsb:zE:=[.o 6624 [ztu,j 5] (zO7)]
def zqp:zE:=[.o 4779 [ztL,j 2] (.tup [.agg [v2,v2,v0,v0],j 0])]
def zs8:zE:=[.o 38252 [zyx,zIg] (zN0)]
def zrJ:zE:=[.o 33922 [zyx] (zNc)]
def zq1:zE:=[.o 33922 [zyx] (.tup [.agg [v29,v29],j 0])]
def zrv:zE:=[.o 43341 [znE,zpj] (.tup [.vsl false 2 [zua,ztv],j 0])]
def zth:zE:=[.o 24413 [znE,.vsl true 2 [v29,ztr]] (.tup [znG,j 0])]
def zp9:zE:=[.m 45551 [zBk] (.tup [.flt .f32 1051372203,j 0]) (.o 15572 [zy7] (.tup [.flt .f32 1266679808,j 0]))
 (.l)]
def zrC:zE:=[.o 24078 [.flt .f32 1051372203] (.tup [zMJ,j 0])]
def zrg:zE:=[.o 32020 [zol] (.tup [.vsl false 2 [zuV,ztB],j 0])]
def zqH:zE:=[.o 32020 [zol] (.tup [j 1,j 0])]
def ztf:zE:=[.o 14332 [zps,zwH,.fn (.f 49) [] []] (zCb)]
def zsZ:zE:=[.m 55381 [v98,j 3] (zDO) (.o 55378 [zc6,j 3] (zHb))
 (.l)]
def k88:List (Nat×zE):=[(189,zse),(193,zsb),(195,zqp),(197,zs8),(198,zrJ),(199,zq1),(200,zrv),(201,zth),(202,zp9),(203,zrC),(204,zrg),(205,zqH),(209,ztf),(218,zsZ)]
def t7:Tr zE:=(.n 201 zth (.n 197 zs8 (.n 193 zsb (.n 189 zse .l .l) (.n 195 zqp .l .l)) (.n 199 zq1 (.n 198 zrJ .l .l) (.n 200 zrv .l .l))) (.n 205 zqH (.n 203 zrC (.n 202 zp9 .l .l) (.n 204 zrg .l .l)) (.n 218 zsZ (.n 209 ztf .l .l) .l)))
def T7:List (Tr zE):=t7::T6
def zrp:zE:=[.o 54323 [zps,zwH] (zCb)]
def zs9:zE:=[.o 7154 [zn6,j 3] (zHb)]
def zsF:zE:=[.o 13498 [zCH,j 3] (zDO)]
def k89:List (Nat×zE):=[(188,zrp),(193,zs9),(194,zsF)]
def t8:Tr zE:=(.n 193 zs9 (.n 188 zrp .l .l) (.n 194 zsF .l .l))
def T8:List (Tr zE):=t8::T7
def zsJ:zE:=[.o 7 [] (.bool true)]
def k90:List (Nat×zE):=[(179,zsJ)]
def t9:Tr zE:=(.n 179 zsJ .l .l)
def T9:List (Tr zE):=t9::T8
end VK1
end VE
