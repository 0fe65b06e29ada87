import Derived.Test.YtknmjihnfgolpaaGreatDoorTaw
import Derived.Test.YtknmjihnfgolpaaGreatDoorTav
set_option linter.all false
set_option maxRecDepth 100000
namespace VE
namespace VK1
def T0:List (Tr zJ):=[]
abbrev j (n:Int):AV:= .int .i64 n
abbrev u (n:Nat):AV:= .int .u64 n
def w (l:List Nat):AV:= .vsl true l.length (l.map u)
def v0:AV:= .str [49]
def v1:AV:= .str [50]
def v2:AV:= .str [48]
def v3:AV:= .str [45,50,47,51]
def v4:AV:= .str [45,49,47,51]
def v5:AV:= .str [52]
def v6:AV:= .str [51]
def v7:AV:= .agg [j (-5),.nils]
def v8:AV:= .agg [j 2,.nils]
def v9:AV:= .agg [j 1,.nils]
def v10:AV:= .agg [j 0,.nils]
def v11:AV:= .agg [j (-3),.nils]
def v12:AV:= .str [45,51]
def v13:AV:= .agg [j 500,.nils]
def v14:AV:= .agg [j (-6),.nils]
def v15:AV:= .str [45,54]
def v16:AV:= .agg [j 707,.nils]
def v17:AV:= .agg [j 8,.nils]
def v18:AV:= .str [56]
def v19:AV:= .agg [j 4,.nils]
def v20:AV:= .agg [j 200,.nils]
def v21:AV:= .agg [j 3,.nils]
def v22:AV:= .agg [j (-1),.nils]
def v23:AV:= .str [45,49]
def v24:AV:= .agg [j 11184811,.nils]
def v25:AV:= .agg [j (-2),.nils]
def v26:AV:= .str [45,50]
def v27:AV:= .agg [j 6,.nils]
def v28:AV:= .agg [j 5,.nils]
def v29:AV:= .str [53]
def v30:AV:= .agg [j 177,.nils]
def v31:AV:= .agg [j 1000,.nils]
def v32:AV:= .agg [j 283,.nils]
def v33:AV:= .agg [j 250,.nils]
def v34:AV:= .agg [j (-177),.nils]
def v35:AV:= .agg [j 33554432,.nils]
def v36:AV:= .agg [j (-707),.nils]
def v37:AV:= .agg [j 10,.nils]
def v38:AV:= .agg [j (-4),.nils]
def v39:AV:= .agg [j 1000000,.nils]
def v40:AV:= .agg [j 2000000,.nils]
def v41:AV:= .agg [j 16,.nils]
def v42:AV:= .agg [j 100,.nils]
def v43:AV:= .agg [j 256,.nils]
def v44:AV:= .agg [j 2048,.nils]
def v45:AV:= .vsl false 3 [u 13782813920216018380,u 14771817424140671491,u 1846462208439]
def v46:AV:= .agg [j 10000000000000000,.nils]
def v47:AV:= .agg [j 1000000000000000000,.nils]
def v48:AV:= .agg [j 100000000,.nils]
def v49:AV:= .agg [j 1000000000000000,.nils]
def v50:AV:= .agg [j 314159265358979323,.nils]
def v51:AV:=w [12841816680275005770,13161652337898601986,90638001705]
def v52:AV:= .agg [j 10000,.nils]
def v53:AV:=w [6399444481559475388,10948563002861]
def v54:AV:=w [8838169010550242411,11648284440560156239,7232]
def v55:AV:= .vsl false 2 [u 8517096806125780797,u 2113149700393599948]
def v56:AV:=w [5782533995252789348,6903900930993065827,95800405]
def v57:AV:= .agg [j 210924120762378,.nils]
def v58:AV:= .agg [j 131157864828,.nils]
def v59:AV:= .agg [j 378770245945430644,.nils]
def v60:AV:= .agg [j 91810290,.nils]
def v61:AV:= .agg [j 166995380103,.nils]
def v62:AV:=w [17141642983857435610,23729635]
def v63:AV:= .agg [j 268556931493155,.nils]
def v64:AV:= .agg [j 297485455515141020,.nils]
def v65:AV:= .agg [j 35300,.nils]
def v66:AV:= .agg [j 72107633,.nils]
def v67:AV:= .agg [j 44946,.nils]
def v68:AV:= .agg [j 12,.nils]
def v69:AV:= .agg [j 32,.nils]
def v70:AV:= .agg [j 14,.nils]
def v71:AV:= .agg [j 19,.nils]
def v72:AV:= .agg [j 11,.nils]
def v73:AV:= .agg [j (-15),.nils]
def v74:AV:= .agg [j 16777217,.nils]
def v75:AV:= .agg [j 65536,.nils]
def v76:AV:= .agg [j 16777216,.nils]
def v77:AV:= .agg [j (-4),.nils,j 1,.nils]
def v78:AV:= .agg [j (-2),.nils,j 1,.nils]
def v79:AV:= .agg [j 1,.nils,j 1,.nils]
def v80:AV:= .agg [j 3,.nils,j 1,.nils]
def v81:AV:= .agg [j (-6),.nils,j 1,.nils]
def v82:AV:= .agg [j 8,.nils,j 1,.nils]
def v83:AV:= .agg [j 5,.nils,j 1,.nils]
def v84:AV:= .agg [j 2,.nils,j 1,.nils]
def v85:AV:= .agg [j (-1),.nils,j 1,.nils]
def v86:AV:= .agg [j 2000000,.nils,j 1,.nils]
def v87:AV:= .agg [j 4,.nils,j 1,.nils]
def v88:AV:= .agg [j 11,.nils,j 1,.nils]
def v89:AV:= .agg [j 6,.nils,j 1,.nils]
def v90:AV:= .agg [j (-15),.nils,j 1,.nils]
def v91:AV:= .agg [j (-3),.nils,j 1,.nils]
def v92:AV:= .agg [j 0,.nils,j 1,.nils]
def v93:AV:= .agg [j 1,.nils,j 4,.nils]
def v94:AV:= .agg [j (-1),.nils,j 4,.nils]
def v95:AV:= .agg [j 5,.nils,j 8,.nils]
def v96:AV:= .agg [j (-5),.nils,j 8,.nils]
def v97:AV:= .agg [j 3,.nils,j 8,.nils]
def v98:AV:= .agg [j (-3),.nils,j 8,.nils]
def v99:AV:= .agg [j (-1),.nils,j 2,.nils]
def zcr:AV:= .agg [j 1,.nils,j 2,.nils]
def zJn:AV:= .agg [j 8388608,.nils,j 1,.nils]
def zNF:AV:= .agg [j (-8388608),.nils,j 1,.nils]
def zG4:AV:= .agg [j 11184810,.nils,j 1,.nils]
def zPD:AV:= .agg [j (-11184810),.nils,j 1,.nils]
def zc7:AV:= .agg [j 1,.nils,j 8,.nils]
def zuP:AV:= .agg [j (-5),.nils,j 2,.nils]
def zBl:AV:= .agg [j 707,.nils,j 500,.nils]
def zpl:AV:= .agg [j (-1),.nils,j 3,.nils]
def zDf:AV:= .agg [j 283,.nils,j 200,.nils]
def zDt:AV:= .agg [j (-707),.nils,j 1000,.nils]
def zAN:AV:= .agg [j 707,.nils,j 1000,.nils]
def zic:AV:= .agg [j (-2),.nils,j 3,.nils]
def zAw:AV:= .agg [j (-177),.nils,j 250,.nils]
def zAn:AV:= .agg [j 177,.nils,j 250,.nils]
def zua:AV:= .agg [j 16777217,.nils,j 1,.nils]
def zot:AV:= .agg [j (-3),.nils,j 2,.nils]
def zCw:AV:= .agg [j 1,.nils,j 3,.nils]
def zGP:AV:= .agg [j 11184811,.nils,j 1,.nils]
def zpq:AV:= .agg [j 11184810,.nils]
def zIW:AV:= .agg [j 8388608,.nils]
def zOi:AV:= .agg [j 1000000,.nils,j 1,.nils]
def zi6:AV:= .agg [j 1414,.nils]
def zGO:AV:= .agg [j 2828,.nils]
def zFq:AV:= .agg [j 1417,.nils]
def zuM:AV:= .agg [j 1415,.nils]
def zIF:AV:= .agg [j 1512,.nils]
def zt0:AV:= .agg [j (-708),.nils]
def zmz:AV:= .agg [j 708,.nils]
def zv7:AV:= .agg [j (-12),.nils]
def ztM:AV:= .str [49,49]
def zwY:AV:= .str [49,54,55,55,55,50,49,55]
def ztU:AV:= .agg [j 15,.nils]
def zIM:AV:= .agg [j 414,.nils]
def zES:AV:= .agg [j 415,.nils]
def zHJ:AV:= .agg [j 170,.nils]
def zGH:AV:= .agg [j 75,.nils]
def zGr:AV:= .agg [j 172,.nils]
def zFj:AV:= .agg [j 70,.nils]
def zB9:AV:= .agg [j 20,.nils]
def zCX:AV:=w [17280761535336168307,17528012411317331584,461615552109]
def zHl:AV:= .agg [j 30,.nils]
def zAE:AV:= .agg [j 103011146151,.nils]
def zA4:AV:= .agg [j 233644530399045067,.nils]
def zCG:AV:= .agg [j 165659417062993,.nils]
def zCa:AV:= .agg [j 56633202,.nils]
def zC4:AV:= .agg [j 27724,.nils]
def zFG:AV:= .agg [j 9,.nils]
def zwg:AV:= .agg [j 13,.nils]
def zDp:AV:= .agg [j 7,.nils]
def zIe:AV:= .agg [j 21418505775128880,.nils]
def zET:AV:= .agg [j 10863153207246784,.nils]
def zKA:AV:= .agg [j 10555352567882096,.nils]
def zIl:AV:= .agg [j 307800639364688,.nils]
def zIQ:AV:= .agg [j 90130829482704,.nils]
def zJ0:AV:= .agg [j 3079557691198605696,.nils]
def zEC:AV:= .agg [j 869142387409225424,.nils]
def zF1:AV:= .agg [j 472130528970929424,.nils]
def zL4:AV:= .agg [j 397011858438296000,.nils]
def zGF:AV:= .agg [j 75118670532633424,.nils]
def zIk:AV:= .agg [j 37408150916576,.nils]
def zKj:AV:= .agg [j 15314527649552,.nils]
def zKb:AV:= .agg [j 6779095617472,.nils]
def zKf:AV:= .agg [j 1756336414608,.nils]
def zIH:AV:= .agg [j 3708163600,.nils]
def zKU:AV:= .agg [j 3314491344,.nils]
def zEP:AV:= .agg [j 393672256,.nils]
def zMg:AV:= .agg [j 1510086373648,.nils]
def zL5:AV:= .agg [j 246250040960,.nils]
def zLV:AV:= .agg [j 165113296,.nils]
def zGv:AV:= .agg [j 63445664,.nils]
def zLX:AV:= .agg [j 38221968,.nils]
def zLd:AV:= .agg [j 25223696,.nils]
def zLc:AV:= .agg [j 32586127888,.nils]
def zH1:AV:= .agg [j 18147145744,.nils]
def zMZ:AV:= .agg [j 12998272,.nils]
def zJP:AV:= .agg [j 12225424,.nils]
def zHB:AV:= .agg [j 772848,.nils]
def zKB:AV:= .agg [j 632704,.nils]
def zK3:AV:= .agg [j 14438982144,.nils]
def zJ3:AV:= .agg [j 2224,.nils]
def zFk:AV:= .agg [j 1888,.nils]
def zGb:AV:= .agg [j 336,.nils]
def zwL:AV:=w [5014872534286336000,4272233503850647016,18367099]
def zFZ:AV:= .agg [j 208,.nils]
def zLO:AV:= .agg [j 128,.nils]
def zFO:AV:= .agg [j 80,.nils]
def zHh:AV:= .agg [j 140144,.nils]
def zHK:AV:= .agg [j 68016,.nils]
def zFT:AV:= .agg [j 4112,.nils]
def zG3:AV:= .agg [j 72128,.nils]
def zzE:AV:=w [18064758389395912917,7182119875137284349,12987500417]
def zvk:AV:= .agg [j 48,.nils]
def zJg:AV:= .agg [j 5832619374768430096,.nils]
def zEx:AV:= .agg [j 4915396281750918896,.nils]
def zJt:AV:= .agg [j 917223093017511200,.nils]
def zJG:AV:= .agg [j 329280816663362896,.nils]
def zEW:AV:= .agg [j 258661459690785408,.nils]
def zLU:AV:= .agg [j 616634671632512,.nils]
def zMf:AV:= .agg [j 211912954363632,.nils]
def zKC:AV:= .agg [j 192808762905248,.nils]
def zMq:AV:= .agg [j 331140077104,.nils]
def zMA:AV:= .agg [j 111147935888,.nils]
def zJS:AV:= .agg [j 108844205328,.nils]
def zLp:AV:= .agg [j 19104191458384,.nils]
def zHV:AV:= .agg [j 46803388773052944,.nils]
def zFV:AV:= .agg [j 23815968199524544,.nils]
def zEs:AV:= .agg [j 22987420573528400,.nils]
def zMk:AV:= .agg [j 1766848321408,.nils]
def zJA:AV:= .agg [j 1435708244304,.nils]
def zIx:AV:= .agg [j 2303730560,.nils]
def zF7:AV:= .agg [j 70619356972577488,.nils]
def zJp:AV:= .agg [j 568869008,.nils]
def zHm:AV:= .agg [j 828547625996144,.nils]
def zy8:AV:=w [18064758389396037917,7182119875137284349,12987500417]
def zF6:AV:= .agg [j 38912,.nils]
def zE9:AV:= .agg [j 12016,.nils]
def zMB:AV:= .agg [j 2864,.nils]
def zLj:AV:= .agg [j 1805392,.nils]
def zIi:AV:= .agg [j 167664,.nils]
def zI1:AV:= .agg [j 128752,.nils]
def zFL:AV:= .agg [j 3778448,.nils]
def zJr:AV:= .agg [j 560,.nils]
def zEV:AV:= .agg [j 28254528,.nils]
def zE6:AV:= .agg [j 64,.nils]
def zLN:AV:= .agg [j 36,.nils]
def zGA:AV:= .agg [j 293,.nils]
def zMK:AV:= .agg [j 292,.nils]
def zMT:AV:= .agg [j 124,.nils]
def zKT:AV:= .agg [j 44,.nils]
def zIR:AV:= .agg [j 121,.nils]
def zJl:AV:= .agg [j 51,.nils]
def zA1:AV:= .str [55,48,55,47,53,48,48]
def zAQ:AV:= .str [50,56,51,47,50,48,48]
def znG:AV:= .str [49,47,56]
def zid:AV:= .str [49,47,50]
def zB4:AV:= .str [45,49,55,55,47,50,53,48]
def zB7:AV:= .str [45,55,48,55,47,49,48,48,48]
def zBP:AV:= .str [55,48,55,47,49,48,48,48]
def zDx:AV:= .str [49,55,55,47,50,53,48]
def zuI:AV:= .str [49,47,54]
def zvn:AV:= .str [49,47,52]
def zCN:AV:= .str [49,47,51]
def zuT:AV:= .str [45,53,47,50]
def zm6:AV:= .agg [j 1,.nils,j 6,.nils]
def zCb:AV:= .agg [j 11184811,.nils,j 33554432,.nils]
def zNx:AV:= .str [49,49,49,56,52,56,49,49,47,51,51,53,53,52,52,51,50]
def zBE:AV:= .agg [j 2,.nils,j 3,.nils]
def zE0:AV:= .agg [j 16777216,.nils,j 1,.nils]
def zxn:AV:= .agg [j 33554432,.nils,j 1,.nils]
def zt1:AV:= .agg [j 16777217,.nils,j 2,.nils]
def ztN:AV:= .agg [j 33554432,.nils,j 3,.nils]
def zDs:AV:= .agg [j (-2),.nils,j 1,.nils,j (-2),.nils,j 1,.nils]
def zmJ:AV:= .agg [j 2,.nils,j 1,.nils,j 2,.nils,j 1,.nils]
def zAL:AV:= .agg [j 1,.nils,j 33554432,.nils]
def zNL:AV:= .vsl false 2 [j 2,.nils,j 1,.nils,j 1,.nils,j 1,.nils]
def zLu:AV:= .vsl false 3 [j 1,.nils,j 1,.nils,j 0,.nils,j 1,.nils,j (-1),.nils,j 3,.nils]
def zAd:AV:= .vsl false 3 [j 0,.nils,j 1,.nils,j 1,.nils,j 1,.nils,j (-2),.nils,j 3,.nils]
def zOY:AV:= .vsl false 2 [j 4,.nils,j 1,.nils,j 3,.nils,j 1,.nils]
def zPj:AV:= .vsl false 2 [j 1,.nils,j 1,.nils,j 2,.nils,j 1,.nils]
def zlc:AV:= .agg [j 1,.nils,j 1,.nils,j 1,.nils,j 1,.nils]
def zKS:AV:= .agg [j 4,.nils,j 1,.nils,j 4,.nils,j 1,.nils]
def zyW:AV:= .agg [j 5,.nils,j 1,.nils,j 5,.nils,j 1,.nils]
def zyG:AV:= .agg [j 3,.nils,j 1,.nils,j 3,.nils,j 1,.nils]
def zzI:AV:= .agg [j (-1),.nils,j 1,.nils,j (-1),.nils,j 1,.nils]
def zOo:AV:= .agg [j 6,.nils,j 1,.nils,j 6,.nils,j 1,.nils]
def zNG:AV:= .vsl true 4 [j (-1),.nils,j 1,.nils,j (-1),.nils,j 1,.nils,j (-1),.nils,j 1,.nils,j (-1),.nils,j 1,.nils]
def zNz:AV:= .vsl true 4 [j (-2),.nils,j 1,.nils,j (-2),.nils,j 1,.nils,j (-2),.nils,j 1,.nils,j (-2),.nils,j 1,.nils]
def zPc:AV:= .vsl true 4 [j 1,.nils,j 1,.nils,j (-2),.nils,j 1,.nils,j (-2),.nils,j 1,.nils,j 4,.nils,j 1,.nils]
def zO7:AV:= .vsl false 4 [j 1,.nils,j 4,.nils,j 1,.nils,j 8,.nils,j 1,.nils,j 2,.nils,j 1,.nils,j 4,.nils]
def zNn:AV:= .vsl false 4 [j 3,.nils,j 1,.nils,j (-4),.nils,j 1,.nils,j (-6),.nils,j 1,.nils,j 8,.nils,j 1,.nils]
def zNM:AV:= .vsl true 4 [j 3,.nils,j 1,.nils,j 3,.nils,j 1,.nils,j 3,.nils,j 1,.nils,j 3,.nils,j 1,.nils]
def zOJ:AV:= .vsl true 4 [j 4,.nils,j 1,.nils,j 4,.nils,j 1,.nils,j 4,.nils,j 1,.nils,j 4,.nils,j 1,.nils]
def zPg:AV:= .vsl true 4 [j 1,.nils,j 1,.nils,j 1,.nils,j 1,.nils,j 1,.nils,j 1,.nils,j 1,.nils,j 1,.nils]
def zNa:AV:= .vsl true 4 [j 6,.nils,j 1,.nils,j 6,.nils,j 1,.nils,j 6,.nils,j 1,.nils,j 6,.nils,j 1,.nils]
def zAX:AV:= .vsl true 3 [j 1,.nils,j 1,.nils,j 2,.nils,j 1,.nils,j 3,.nils,j 1,.nils]
def zOQ:AV:= .vsl false 3 [j 3,.nils,j 1,.nils,j 4,.nils,j 1,.nils,j 11,.nils,j 1,.nils]
def zwA:AV:= .vsl false 3 [j 1,.nils,j 1,.nils,j 2,.nils,j 1,.nils,j 5,.nils,j 1,.nils]
def zOz:AV:= .vsl false 3 [j 0,.nils,j 1,.nils,j 1,.nils,j 1,.nils,j 2,.nils,j 1,.nils]
def zKN:AV:= .vsl true 3 [j 2,.nils,j 1,.nils,j 4,.nils,j 1,.nils,j 6,.nils,j 1,.nils]
def zPL:AV:= .vsl false 3 [j 1,.nils,j 1,.nils,j 2,.nils,j 1,.nils,j 3,.nils,j 1,.nils]
def zCq:AV:= .str [45,49,47,56]
def zFp:AV:= .agg [j (-1),.nils,j 8,.nils]
def zBX:AV:= .agg [j (-1),.nils,j 1,.nils,j 2,.nils,j 1,.nils]
def zO4:AV:= .vsl true 3 [j (-3),.nils,j 1,.nils,j 0,.nils,j 1,.nils,j 1,.nils,j 1,.nils]
def zOR:AV:= .vsl false 3 [j 1,.nils,j 1,.nils,j (-1),.nils,j 2,.nils,j 0,.nils,j 1,.nils]
def zFt:AV:= .vsl true 3 [j (-2),.nils,j 1,.nils,j 1,.nils,j 1,.nils,j 0,.nils,j 1,.nils]
def zN6:AV:= .vsl false 3 [j 0,.nils,j 1,.nils,j (-3),.nils,j 2,.nils,j 1,.nils,j 1,.nils]
def zNj:AV:= .vsl false 3 [j 0,.nils,j 1,.nils,j (-2),.nils,j 1,.nils,j (-4),.nils,j 1,.nils]
def znh:AV:= .vsl true 2 [v0,v1]
def ztO:AV:= .vsl true 2 [v1,v0]
def zuD:AV:= .vsl true 3 [v2,v0,v3]
def zvt:AV:= .vsl true 3 [v0,v2,v4]
def zvG:AV:= .vsl true 2 [v5,v6]
def zmU:AV:= .agg [j 1,v45]
def zFl:AV:= .agg [j 1,.vsl false 3 [u 8640380767668084153,u 17987378242513441600,u 230807776054]]
def zbq:AV:= .agg [j 1,w [8640380767668084153,17987378242513441600,230807776054]]
def zLM:AV:= .agg [j 1,w [16216789405050171313,13990962461900849178,13001944405576862530,2721289870473684565,16479346644060571776,2887]]
def zG2:AV:= .agg [j 1,w [9632337040368467968,5421010862427]]
def zMs:AV:= .agg [j 1,.vsl false 3 [u 16114778996962784998,u 16609280748925111553,u 923231104219]]
def zNs:AV:= .agg [j 1,w [16616825203528040448,17030607900432772]]
def zaj:AV:= .agg [j 1,w [13070572018536022016,10549268516463523069,293873587705]]
def zJe:AV:= .agg [j 1,w [7585187672398757888,569008837486978856,2854786896515372131,13854840613988277292,18078004663405200202,3676]]
def zGl:AV:= .agg [j 1,w [16800268943940132986,10498901635650969125,15552186833516458699,617515930402880608,1347820176139651620,1134]]
def zOu:AV:= .agg [j 1,.vsl false 2 [u 17463089541855990736,u 17030607900432772]]
def zOT:AV:= .agg [j 1,w [16114359280022847488,16609280748925111553,923231104219]]
def zGR:AV:= .agg [j 1,.vsl false 2 [u 15956439711762054671,u 1659663893673001552]]
def zL3:AV:= .agg [j 1,w [12234476317405662167,11692049235685359344,15353889696288128096,15111976797126571406,20765904853]]
def zJh:AV:= .agg [j 1,.vsl false 3 [u 2023799238178458475,u 7999906463597924033,u 75241462]]
def zMt:AV:= .agg [j 1,.vsl false 5 [u 8068274122100154195,u 10164474085895960830,u 8661451129107458488,u 11709122817828559434,u 17366314611440665278]]
def zKw:AV:= .agg [j 1,w [5057613930186074076,12163321890431987431,9297356646049816308,12453774809672462324,136989]]
def zHX:AV:= .agg [j 1,.vsl false 5 [u 16600421415523125331,u 6593959610220467789,u 9621704098130034456,u 15503065397907737844,u 1669347581099524]]
def zHf:AV:= .agg [j 1,w [3597362798407890137,9139644163598633729,5680]]
def zEX:AV:= .agg [j 1,.vsl false 5 [u 724442254058341841,u 12242707536774606347,u 15727830659569986504,u 12988536605132093096,u 1311102524267539]]
def zCm:AV:= .agg [j 1,w [11635806404526227817,5431237391449305]]
def zHe:AV:= .agg [j 1,w [11628999839319665121,7983186536062692438,6928779995928134897,13333596706826726224,67956264]]
def zFy:AV:= .agg [j 1,w [17862480628081892373,5412527530760177011,9289918553171977696,1669267044269566458,26439971242]]
def zHU:AV:= .agg [j 1,.vsl false 3 [u 12004326465849222656,u 12583738487651288622,u 71186920073]]
def zH6:AV:= .agg [j 1,w [5415264564868724224,2702429455317848186,3257820634772804819,2921037779272485671,12892480808343775952,890]]
def zIq:AV:= .agg [j 1,w [3357387301995924548,10998580160438829665,17305001410530887765,13223409123470817412,3664734435888764724,1]]
def zA7:AV:= .agg [j 1,w [6941760015582258140,11976423673148936281,4659173023]]
def zGS:AV:= .agg [j 1,w [9499324417185814012,2579272376208973014,10473475704207649438,8359000212588520640,5462207568661732176,58]]
def zHj:AV:= .agg [j 1,.vsl false 3 [u 7618611272510715734,u 13374841863731521290,u 3659305935]]
def zJF:AV:= .agg [j 1,w [3674031232874724134,12529952070501274096,329920358137583042,5544844341389442335,14492781612538992981,45]]
def zAu:AV:= .agg [j 1,w [13621876266353651619,14736531200132615338,33]]
def zGU:AV:= .agg [j 1,.vsl false 5 [u 17292431025786201035,u 11946252089032414340,u 13964961894145495040,u 13986844084537750418,u 7801041777162]]
def zEz:AV:= .agg [j 1,w [16370927238490033171,10063982856075116439,26]]
def zKu:AV:= .agg [j 1,.vsl false 5 [u 11009532767374467259,u 8124201305943929203,u 16104677368926751221,u 7314726601207293494,u 6126923884370]]
def zF0:AV:= .agg [j 1,.vsl false 2 [u 12366545110363778517,u 4265683872219832]]
def zMH:AV:= .agg [j 1,w [13230967557627232237,3500369219144259201,2487962285782537470,9309154521224901510,53372725]]
def zF2:AV:= .agg [j 1,w [4021442947409540411,9486481206710503630,828798]]
def zEq:AV:= .agg [j 1,.vsl false 5 [u 14550886082860770979,u 14470342835219398496,u 12822340539202483276,u 829795195913251750,u 191293141874751367]]
def zCy:AV:= .agg [j 1,w [6615404896634909228,792797273462150915,1055259]]
def zFU:AV:= .agg [j 1,.vsl false 5 [u 14189355548283026892,u 14716625746279442152,u 12318077660473956507,u 13146092726962069828,u 243561992871567315]]
def zLh:AV:= .agg [j 1,w [14104395762648518710,19]]
def zKE:AV:= .agg [j 1,.vsl false 4 [u 6557673277525087494,u 15976676401898429601,u 8523590972869011769,u 4561823561349]]
def zGg:AV:= .agg [j 1,w [17533984222864527674,12353584992072517549,14264124144876419712,2639106]]
def zH4:AV:= .agg [j 1,w [17236632546876903068,11135480475144698162,1148068112344762910,1641]]
def zMj:AV:= .agg [j 1,w [1882113692433447380,6589440540014481872,11201623559418453978,4739216728]]
def zLm:AV:= .agg [j 1,w [13944175567244065250,4096355134818525490,2743784780152768049,1]]
def zIa:AV:= .agg [j 1,.vsl false 2 [u 8262468237226232984,u 13958642011]]
def zJL:AV:= .agg [j 1,w [10141935774598533592,8309989412897469218,9297645483805615959,12029650584374213082,174]]
def zGd:AV:= .agg [j 1,w [16079647657453681551,9047855698823632873,8583923049414943528,2089]]
def zJI:AV:= .agg [j 1,.vsl false 2 [u 10209694078816097337,u 8598981274288]]
def zIP:AV:= .agg [j 1,w [4511974855030608433,637104959086601153,12451904279572219604,8102622432476352004,107591]]
def zFz:AV:= .agg [j 1,.vsl false 4 [u 17876293434389998218,u 17941419946077638974,u 11792391544926169901,u 5476984495424500642]]
def zG0:AV:= .agg [j 1,w [13956796289713155025,20826]]
def zML:AV:= .agg [j 1,.vsl false 4 [u 6113462245698230025,u 11899689605548549250,u 7204198040994281268,u 4806977373155694]]
def zBJ:AV:= .agg [j 1,w [14334071515131066545,17772694999]]
def zJZ:AV:= .agg [j 1,w [15852820823071556841,16643281740854508204,6733274196778773178,6899023038396955358,222]]
def zIp:AV:= .agg [j 1,w [18173646507131229515,13627204094284174079,1964443467344395986,3360215]]
def zGi:AV:= .agg [j 1,w [8797682231043936192,18637212]]
def zHN:AV:= .agg [j 1,.vsl false 4 [u 5361003646381842880,u 16435824858651011218,u 7726429105647848976,u 4301613563662702939]]
def zHW:AV:= .agg [j 1,w [3045029095724553698,25]]
def zJ4:AV:= .agg [j 1,.vsl false 4 [u 11025444859222714962,u 2417956740003135128,u 13421244786285755757,u 5808294154414]]
def zBD:AV:= .agg [j 1,w [8302713205355927860,26517]]
def zMF:AV:= .agg [j 1,.vsl false 4 [u 4244187385348643476,u 4734386098559386715,u 10417457931255205964,u 6120433682148984]]
def zKo:AV:= .agg [j 1,w [494431295515953084,10681898006951248689,10894471581772944298,3722172114]]
def zK5:AV:= .agg [j 1,.vsl false 3 [u 6974583969644181956,u 17520943641721873814,u 8147514494740620]]
def zMX:AV:= .agg [j 1,.vsl false 3 [u 7791533900303611049,u 2546863062074383501,u 16643002409318332171]]
def zhY:AV:= .agg [j 1,w [6450984253743169536,13015503840481697412,293873587]]
def zJs:AV:= .agg [j 1,.vsl false 3 [u 9697743876229720706,u 13696713614337051836,u 10373886302566910]]
def zK2:AV:= .agg [j 1,.vsl false 3 [u 10284866305095868446,u 12015622436964011398,u 3231308864769]]
def zMD:AV:= .agg [j 1,.vsl false 3 [u 16593281996017185979,u 9718793280983461320,u 4385347745044]]
def zPJ:AV:= .agg [j 1,w [228755338261016246,15834360252274472699,203235585999]]
def zOs:AV:= .agg [j 1,w [11956471268774780203,4233453559939239903,207800006678]]
def zNf:AV:= .agg [j 1,.vsl false 3 [u 12335241514720210847,u 4233453559939239903,u 207800006678]]
def zPb:AV:= .agg [j 1,w [6698787159143406041,4233453559939213411,207800006678]]
def zOZ:AV:= .agg [j 1,.vsl false 3 [u 15001500364499333901,u 4233453559939239928,u 207800006678]]
def zNT:AV:= .agg [j 1,.vsl false 3 [u 8003386255225394266,u 3252936194182942452,u 207800013877]]
def zPx:AV:= .agg [j 1,w [17611961318384703471,10051395827332337828,207800006644]]
def zN7:AV:= .agg [j 1,.vsl false 3 [u 15905803109429250494,u 4233464490753250908,u 207800006678]]
def zNe:AV:= .agg [j 1,w [9506358627869775106,4233453542190248047,207800006678]]
def zOn:AV:= .agg [j 1,.vsl false 3 [u 12787093511028803474,u 6341182953755401551,u 207800006678]]
def zOt:AV:= .agg [j 1,w [4269996704903022677,4228033253361801603,207800006678]]
def zNI:AV:= .agg [j 1,.vsl false 3 [u 7170515353843274386,u 9364039851713857364,u 207894759023]]
def zPf:AV:= .agg [j 1,w [1387981358590485038,2460138920720791537,207798958618]]
def zPp:AV:= .agg [j 1,.vsl false 3 [u 5393686069291290035,u 4233453559962943047,u 207800006678]]
def zOy:AV:= .agg [j 1,.vsl false 3 [u 12334973124784097795,u 4233453559939239903,u 207800006678]]
def zPP:AV:= .agg [j 1,w [12334973124692287505,4233453559939239903,207800006678]]
def zOv:AV:= .agg [j 1,w [12334972957788717692,4233453559939239903,207800006678]]
def zA2:AV:= .agg [j 1,.vsl false 3 [u 12334973124692332432,u 4233453559939239903,u 207800006678]]
def zt3:AV:= .agg [j 1,.vsl false 3 [u 12334973124693332432,u 4233453559939239903,u 207800006678]]
def zvJ:AV:= .agg [j 1,w [12334973124691332432,4233453559939239903,207800006678]]
def zNO:AV:= .agg [j 1,w [12334973124692332432,4233453559939239903,207800006678]]
def zNP:AV:= .agg [j 1,.vsl false 3 [u 12334973124692332451,u 4233453559939239903,u 207800006678]]
def zwZ:AV:= .tup [v8,v10]
def ztC:AV:= .tup [v9,v10]
def zvb:AV:= .tup [v10,v9]
def zzq:AV:= .tup [v10,v8]
def zA0:AV:= .tup [v21,v10]
def zBw:AV:= .agg [j 1,.vsl false 3 [u 9514143892148891222,u 14589875561820374064,u 55910076283]]
def zBq:AV:= .agg [j 1,.vsl false 3 [u 7236889286840459925,u 7876560602087652357,u 181276003411]]
def zBO:AV:= .agg [j 1,w [2225215780011097513,15327931522679171057,650936]]
def zAy:AV:= .agg [j 1,.vsl false 3 [u 7455323194197715914,u 4202843118986907043,u 2874012161]]
def zCC:AV:= .agg [j 1,w [585116523289769433,15658363997444158300,20]]
def zAf:AV:= .agg [j 1,w [1527792737363884452,7503159166461348028,59094506]]
def zBK:AV:= .agg [j 1,.vsl false 2 [u 7135181956152382277,u 1303496973947833351]]
def zz3:AV:= .agg [j 1,w [8753492008855507006,8313990678002305033,4461]]
def zz4:AV:= .agg [j 1,w [8305159076503378217,14637632]]
def zCJ:AV:= .agg [j 1,.vsl false 2 [u 2875139543986997541,u 3350260278875572]]
def zA8:AV:= .agg [j 1,.vsl false 2 [u 5157674005487560540,u 6753624099915]]
def zAD:AV:= .agg [j 1,.vsl false 2 [u 5785850920737608665,u 10963091799]]
def zBz:AV:= .agg [j 1,w [5467296334037880926,16357]]
def zBC:AV:= .agg [j 1,w [9649144829102292634,15]]
def zIX:AV:= .agg [j 1,.vsl false 3 [u 349704605168908272,u 17270539680539398753,u 77094]]
def zIY:AV:= .agg [j 1,.vsl false 3 [u 9267470765430408848,u 17447578655697668941,u 33219]]
def zL8:AV:= .agg [j 1,.vsl false 3 [u 261507148017642192,u 822126442853612486,u 10655]]
def zIC:AV:= .agg [j 1,.vsl false 3 [u 7834891934529719632,u 7197531120445425756,u 31380170]]
def zH0:AV:= .agg [j 1,.vsl false 3 [u 9723933137813899312,u 3577955977601520452,u 11452054]]
def zGK:AV:= .agg [j 1,.vsl false 3 [u 6833769732611472624,u 41619165242384851,u 8476062]]
def zHH:AV:= .agg [j 1,.vsl false 3 [u 1053442922206619248,u 11415689614233665265,u 2524077]]
def zLQ:AV:= .agg [j 1,.vsl false 3 [u 1836720482995807440,u 10567391271835021952,u 451914]]
def zHG:AV:= .agg [j 1,.vsl false 3 [u 10316584580937133664,u 13918965476187210352,u 264504]]
def zHD:AV:= .agg [j 1,.vsl false 3 [u 2890163405202426688,u 3536336812359135601,u 2975992]]
def zFf:AV:= .agg [j 1,.vsl false 3 [u 9966879975768225392,u 15095169869357363215,u 187409]]
def zFB:AV:= .agg [j 1,.vsl false 3 [u 16893689183768430832,u 12684534469197727453,u 3]]
def zLk:AV:= .agg [j 1,.vsl false 3 [u 7441730033706885616,u 1715340864178252272,u 1]]
def zMQ:AV:= .agg [j 1,.vsl false 2 [u 13015243156357325600,u 7538511876662970636]]
def zMU:AV:= .agg [j 1,.vsl false 2 [u 3833049185714940912,u 40786512933943980]]
def zMG:AV:= .agg [j 1,.vsl false 2 [u 13551512549659598096,u 15013748623870650]]
def zHQ:AV:= .agg [j 1,.vsl false 2 [u 13623512233814847952,u 10759015686202678]]
def zEY:AV:= .agg [j 1,.vsl false 3 [u 14559915651415052928,u 13228462717394739238,u 21]]
def zFn:AV:= .agg [j 1,.vsl false 3 [u 4335620253824644048,u 8637665728864155564,u 8]]
def zIG:AV:= .agg [j 1,.vsl false 3 [u 5888675143765764832,u 14399875333375979726,u 4]]
def zKZ:AV:= .agg [j 1,.vsl false 3 [u 8482949321377482272,u 14981199327136831483,u 1254]]
def zIN:AV:= .agg [j 1,.vsl false 3 [u 6184888871835990480,u 10099740341725821930,u 616]]
def zKq:AV:= .agg [j 1,.vsl false 2 [u 18304731868411337648,u 5085061184561862614]]
def zFS:AV:= .agg [j 1,.vsl false 2 [u 13157255361655539568,u 2453450692101108021]]
def zJ9:AV:= .agg [j 1,.vsl false 2 [u 10436965218809810128,u 178159800359646571]]
def zMn:AV:= .agg [j 1,.vsl false 2 [u 6603916033094869216,u 137373287425702591]]
def zMP:AV:= .agg [j 1,.vsl false 2 [u 18374744389554301760,u 4254732937667971]]
def zKa:AV:= .agg [j 1,.vsl false 2 [u 7916510896190665120,u 5581036710]]
def zFF:AV:= .agg [j 1,.vsl false 2 [u 16347454578296750992,u 3577109470]]
def zKR:AV:= .agg [j 1,.vsl false 2 [u 10015800391603465744,u 2003927239]]
def zHx:AV:= .agg [j 1,.vsl false 2 [u 16399614008783666512,u 6881587320788]]
def zKh:AV:= .agg [j 1,.vsl false 2 [u 995144945467656128,u 2078543031735]]
def zL6:AV:= .agg [j 1,.vsl false 2 [u 13414179172380698128,u 645958225583]]
def zFg:AV:= .agg [j 1,.vsl false 2 [u 5111978564696012016,u 50249654277257]]
def zKn:AV:= .agg [j 1,.vsl false 2 [u 7159108629621897120,u 43368066956468]]
def zFQ:AV:= .agg [j 1,.vsl false 2 [u 13767511602125347664,u 2249549810866734]]
def zE8:AV:= .agg [j 1,.vsl false 2 [u 4607232787428954096,u 2005183126801237]]
def zFr:AV:= .agg [j 1,.vsl false 2 [u 9160278814696393568,u 244366684065497]]
def zMM:AV:= .agg [j 1,.vsl false 2 [u 11709786853761729984,u 57383549335]]
def zLw:AV:= .agg [j 1,.vsl false 2 [u 11120010015640308240,u 25901256312]]
def zMY:AV:= .agg [j 1,.vsl false 2 [u 4383052795692486608,u 83284805648]]
def zIh:AV:= .agg [j 1,.vsl false 2 [u 16092839649454216592,u 140668354983]]
def zKr:AV:= .agg [j 1,.vsl false 2 [u 6331654186693285248,u 1573182231]]
def zMc:AV:= .agg [j 1,.vsl false 2 [u 3684146204910180496,u 430745008]]
def zIc:AV:= .agg [j 1,.vsl false 2 [u 9170180249816038160,u 281199]]
def zFD:AV:= .agg [j 1,.vsl false 2 [u 2286845318953838880,u 48233]]
def zKp:AV:= .agg [j 1,.vsl false 2 [u 16182697728756395376,u 40033]]
def zHi:AV:= .agg [j 1,.vsl false 2 [u 3083901620222578096,u 18648396]]
def zIS:AV:= .agg [j 1,.vsl false 2 [u 2180461744876363584,u 610632]]
def zEE:AV:= .agg [j 1,.vsl false 2 [u 11457025568769877040,u 329432]]
def zHC:AV:= .agg [j 1,.vsl false 2 [u 5321029012724858640,u 131149405]]
def zJR:AV:= .agg [j 1,.vsl false 2 [u 8404930632947436736,u 149797801]]
def zGW:AV:= .agg [j 1,.vsl false 2 [u 4550891663906995120,u 8199]]
def zK0:AV:= .agg [j 1,.vsl false 2 [u 16425875146837966512,u 7236]]
def zIo:AV:= .agg [j 1,.vsl false 2 [u 6571760590778580224,u 962]]
def zEB:AV:= .agg [j 1,.vsl false 2 [u 7317039158807008176,u 500]]
def zKV:AV:= .agg [j 1,.vsl false 2 [u 13725959645672295376,u 280947206]]
def zE5:AV:= .agg [j 1,.vsl false 2 [u 17701465505681123664,u 461]]
def zFA:AV:= .agg [j 1,.vsl false 2 [u 8062317726835436128,u 38]]
def zHE:AV:= .agg [j 1,.vsl false 1 [u 13187373152203648208]]
def zFs:AV:= .agg [j 1,w [10107815461005042512]]
def zAP:AV:= .agg [j 1,zwL]
def zI4:AV:= .agg [j 1,.vsl false 3 [u 9267470758912408848,u 17447578655697668941,u 33219]]
def zEN:AV:= .agg [j 1,.vsl false 3 [u 261507163619642192,u 822126442853612486,u 10655]]
def zME:AV:= .agg [j 1,.vsl false 3 [u 8482949268053482272,u 14981199327136831483,u 1254]]
def zLK:AV:= .agg [j 1,.vsl false 3 [u 10316584582117133664,u 13918965476187210352,u 264504]]
def zEI:AV:= .agg [j 1,.vsl false 3 [u 9966879974382225392,u 15095169869357363215,u 187409]]
def zGs:AV:= .agg [j 1,.vsl false 3 [u 349704607734908272,u 17270539680539398753,u 77094]]
def zMV:AV:= .agg [j 1,.vsl false 3 [u 1836720482789807440,u 10567391271835021952,u 451914]]
def zHc:AV:= .agg [j 1,.vsl false 3 [u 6833769732649472624,u 41619165242384851,u 8476062]]
def zMR:AV:= .agg [j 1,.vsl false 3 [u 2890163405146426688,u 3536336812359135601,u 2975992]]
def zHp:AV:= .agg [j 1,.vsl false 3 [u 1053442922356619248,u 11415689614233665265,u 2524077]]
def zGI:AV:= .agg [j 1,.vsl false 3 [u 6184889314029990480,u 10099740341725821930,u 616]]
def zEM:AV:= .agg [j 1,.vsl false 3 [u 7834891934531719632,u 7197531120445425756,u 31380170]]
def zEO:AV:= .agg [j 1,.vsl false 3 [u 9723933137795899312,u 3577955977601520452,u 11452054]]
def zJo:AV:= .agg [j 1,.vsl false 3 [u 14559914713703052928,u 13228462717394739238,u 21]]
def zG5:AV:= .agg [j 1,.vsl false 3 [u 4335646951954644048,u 8637665728864155564,u 8]]
def zLP:AV:= .agg [j 1,.vsl false 3 [u 5888620809793764832,u 14399875333375979726,u 4]]
def zHq:AV:= .agg [j 1,.vsl false 3 [u 16893770215870430832,u 12684534469197727453,u 3]]
def zLa:AV:= .agg [j 1,.vsl false 2 [u 6661453620722869216,u 137373287425702591]]
def zMu:AV:= .agg [j 1,.vsl false 2 [u 3771208457272940912,u 40786512933943980]]
def zED:AV:= .agg [j 1,.vsl false 2 [u 13794572322613598096,u 15013748623870650]]
def zGn:AV:= .agg [j 1,.vsl false 2 [u 10432662077995810128,u 178159800359646571]]
def zH9:AV:= .agg [j 1,.vsl false 2 [u 13075551959464847952,u 10759015686202678]]
def zJm:AV:= .agg [j 1,.vsl false 2 [u 719020363148750144,u 4254732937667972]]
def zGh:AV:= .agg [j 1,.vsl false 2 [u 11637511233167347664,u 2249549810866734]]
def zH5:AV:= .agg [j 1,.vsl false 2 [u 13015730286681325600,u 7538511876662970636]]
def zEK:AV:= .agg [j 1,.vsl false 2 [u 18303622241689337648,u 5085061184561862614]]
def zH7:AV:= .agg [j 1,.vsl false 2 [u 13158852118701539568,u 2453450692101108021]]
def zE7:AV:= .agg [j 1,.vsl false 3 [u 7441594667632885616,u 1715340864178252272,u 1]]
def zJO:AV:= .agg [j 1,.vsl false 2 [u 7528253203690954096,u 2005183126801237]]
def zHt:AV:= .agg [j 1,.vsl false 2 [u 4109258029476393568,u 244366684065497]]
def zFv:AV:= .agg [j 1,.vsl false 2 [u 11547677115298908784,u 50249654277259]]
def zKM:AV:= .agg [j 1,.vsl false 2 [u 13258781789409413280,u 43368066956458]]
def zGe:AV:= .agg [j 1,.vsl false 2 [u 16735639399599047120,u 6881587320800]]
def zK4:AV:= .agg [j 1,.vsl false 2 [u 14569274984651841296,u 430427458]]
def zGo:AV:= .agg [j 1,.vsl false 2 [u 10013737208167830608,u 282104579]]
def zJb:AV:= .agg [j 1,.vsl false 2 [u 4555537776484010688,u 148322879]]
def zJk:AV:= .agg [j 1,.vsl false 2 [u 5078665760362888640,u 2078543031653]]
def zJd:AV:= .agg [j 1,.vsl false 2 [u 1499642118510381200,u 645958225841]]
def zHs:AV:= .agg [j 1,.vsl false 2 [u 11331934866641240592,u 3577201370]]
def zHw:AV:= .agg [j 1,.vsl false 2 [u 12950604925646540944,u 2003814414]]
def zLY:AV:= .agg [j 1,.vsl false 2 [u 16828074014704251264,u 1573386955]]
def zFJ:AV:= .agg [j 1,.vsl false 2 [u 579739404831745040,u 140668354130]]
def zJ8:AV:= .agg [j 1,.vsl false 2 [u 17627428572892952656,u 83284809320]]
def zL2:AV:= .agg [j 1,.vsl false 2 [u 1399054905648344000,u 57383544809]]
def zMd:AV:= .agg [j 1,.vsl false 2 [u 16228373667244608656,u 25901264511]]
def zLo:AV:= .agg [j 1,.vsl false 2 [u 5835795718578229920,u 5581015785]]
def zHY:AV:= .agg [j 1,.vsl false 2 [u 5458199431683819920,u 133781700]]
def zHR:AV:= .agg [j 1,.vsl false 2 [u 17544082418509742384,u 14541178]]
def zJM:AV:= .agg [j 1,.vsl false 2 [u 13582154328482103008,u 2911089]]
def zLs:AV:= .agg [j 1,.vsl false 2 [u 11931193853426722832,u 2]]
def zEu:AV:= .agg [j 1,.vsl false 2 [u 1183178196907373840,u 2]]
def zF9:AV:= .agg [j 1,.vsl false 1 [u 10748015656519348992]]
def zKX:AV:= .agg [j 1,.vsl false 2 [u 6765365049588146096,u 27]]
def zIb:AV:= .agg [j 1,.vsl false 2 [u 83271609768439104,u 10]]
def zHu:AV:= .agg [j 1,.vsl false 2 [u 6598821830051267888,u 7]]
def zMr:AV:= .agg [j 1,.vsl false 2 [u 108953252000433584,u 2896820]]
def zHA:AV:= .agg [j 1,.vsl false 2 [u 13473201076481669424,u 14269]]
def zLA:AV:= .agg [j 1,.vsl false 2 [u 13614001708944731296,u 64]]
def zyZ:AV:= .tup [v10,v10]
def zpY:AV:= .agg [v23,v1]
def zvz:AV:= .agg [v0,v1]
def zxU:AV:= .agg [v12,v5]
def zAz:AV:= .agg [v5,v18]
def zxt:AV:= .agg [v0,v0]
def zGM:AV:= .agg [j 1,zCX,j 2,.nils]
def zMh:AV:= .agg [v6,v6,v23,v23]
def zwV:AV:= .agg [v0,v0,v1,v1]
def zCn:AV:= .vsl true 2 [v6,v5]
def zCv:AV:= .vsl true 3 [v1,v5,.str [54]]
def zCj:AV:= .vsl true 2 [v2,v0]
def zCh:AV:= .vsl true 2 [v0,v2]
def zDm:AV:= .vsl true 3 [v0,v1,v6]
def zC5:AV:= .tup [.agg [v15,v18],j 0]
def zGk:AV:= .tup [.agg [znG,zid],j 0]
def zI8:AV:= .tup [.agg [zA1,zAQ],j 0]
def zGT:AV:= .tup [.agg [zBP,zDx],j 0]
def zKP:AV:= .tup [.agg [zB4,zB7],j 0]
def znW:AV:= .vsl true 2 [znh,zCn]
def zpU:AV:= .vsl true 2 [zCj,zCh]
def zou:AV:= .vsl true 2 [zDm,zCv]
def zPH:AV:= .tup [.agg [v0,v0,v26,v26],j 0]
def zPK:AV:= .tup [.agg [v29,v29,v29,v29],j 0]
def zNh:AV:= .tup [.agg [zid,zid],j 0]
def zD4:zJ:=[.m 55467 [znh,znh] (.bool true) (.m 51820 [ztO,ztO] (.bool true) (.o 38327 [zuD,zuD] (.bool true))
 (.l))
 (.m 63514 [zvt,zvt] (.bool true) (.o 60170 [zvG,zvG] (.bool true))
 (.l))]
def zDS:zJ:=[.o 31699 [.vsl false 3 [j 0,j 2,j 1],.vsl true 3 [j 0,j 2,j 1]] (.bool true)]
def zDU:zJ:=[.m 28700 [v7] (.str [45,53]) (.m 28694 [v8] (v1) (.m 28693 [v9] (v0) (.o 28692 [v10] (v2))
 (.l))
 (.o 28696 [v11] (v12)))
 (.m 29192 [v13] (.str [53,48,48]) (.o 28702 [v14] (v15))
 (.o 29399 [v16] (.str [55,48,55]))),
 .m 28700 [v17] (v18) (.o 28696 [v19] (v5))
 (.l)]
def k0:List (Nat×zJ):=[(29,zD4),(59,zDS),(99,zDU)]
def zEd:zJ:=[.m 28892 [v20] (.str [50,48,48]) (.m 28695 [v21] (v6) (.m 28692 [v22] (v23) (.o 9412 [v24] (.str [49,49,49,56,52,56,49,49]))
 (.o 28694 [v25] (v26)))
 (.m 28698 [v27] (.str [54]) (.o 28697 [v28] (v29))
 (.o 28869 [v30] (.str [49,55,55]))))
 (.m 29692 [v31] (.str [49,48,48,48]) (.m 28975 [v32] (.str [50,56,51]) (.o 28942 [v33] (.str [50,53,48]))
 (.o 29044 [v34] (.str [45,49,55,55])))
 (.m 36372 [v35] (.str [51,51,53,53,52,52,51,50]) (.o 30104 [v36] (.str [45,55,48,55]))
 (.l)))]
def zza:zJ:=[.m 40563 [v9,v37] (v37) (.o 40562 [v10,v37] (v10))
 (.l)]
def k1:List (Nat×zJ):=[(99,zEd),(100,zza)]
def zyO:zJ:=[.m 38203 [v17,v9] (v17) (.m 38198 [v21,v9] (v21) (.m 38196 [v9,v9] (v9) (.o 38195 [v22,v9] (v22))
 (.o 38197 [v8,v9] (v8)))
 (.m 38201 [v38,v9] (v38) (.o 38199 [v11,v9] (v11))
 (.l)))
 (.m 38985 [v9,v19] (v19) (.m 38459 [v9,v8] (v8) (.o 38205 [v14,v9] (v14))
 (.o 38984 [v22,v11] (v21)))
 (.m 40037 [v9,v17] (v17) (.o 38986 [v8,v11] (v14))
 (.l))),
 .m 38984 [v22,v19] (v38) (.o 38199 [v19,v9] (v19))
 (.o 38986 [v8,v19] (v17))]
def k2:List (Nat×zJ):=[(100,zyO)]
def zv4:zJ:=[.m 39510 [v10,v27] (v10) (.m 38201 [v27,v9] (v27) (.m 37934 [v8,v22] (v25) (.m 37932 [v22,v22] (v9) (.o 36640 [v8,v39] (v40))
 (.l))
 (.o 38197 [v25,v9] (v25)))
 (.m 38460 [v8,v8] (v19) (.o 38458 [v22,v8] (v25))
 (.o 38988 [v19,v19] (v41))))
 (.m 40572 [v37,v37] (v42) (.m 39848 [v31,v31] (v39) (.o 39747 [v17,v43] (v44))
 (.o 40036 [v10,v17] (v10)))
 (.m 64233 [v9,v42] (v42) (.o 42156 [v41,v41] (v43))
 (.o 64242 [v37,v42] (v31))))]
def k3:List (Nat×zJ):=[(100,zv4)]
def zxz:zJ:=[.m 46102 [zmU,v9] (zmU) (.m 25125 [zFl,zbq] (zLM) (.m 20968 [v46,v46] (zG2) (.m 19736 [v10,v47] (v10) (.o 14861 [.agg [j 10000000,.nils],v48] (v49))
 (.l))
 (.o 22125 [v42,v46] (v47)))
 (.m 39210 [zMs,v8] (zmU) (.o 26453 [v50,v47] (zNs))
 (.o 42749 [zaj,zbq] (zJe))))
 (.m 54941 [v47,zG2] (zaj) (.m 51345 [.agg [j 1,v51],zbq] (zGl) (.o 48092 [v31,v52] (.agg [j 10000000,.nils]))
 (.o 54528 [v48,v48] (v46)))
 (.m 63598 [zOu,v49] (zOT) (.o 57092 [v52,v52] (v48))
 (.o 64332 [v42,v42] (v52))))]
def k4:List (Nat×zJ):=[(100,zxz)]
def zxH:zJ:=[.m 38534 [zGR,zbq] (zL3) (.m 15100 [zJh,zbq] (zMt) (.m 7612 [.agg [j 1,v53],zbq] (zKw) (.m 3239 [.agg [j 1,v54],zbq] (zHX) (.o 1139 [zHf,zbq] (zEX))
 (.l))
 (.o 14466 [zCm,zbq] (zHe)))
 (.m 24752 [.agg [j 1,v55],zbq] (zFy) (.o 21686 [zHU,zbq] (zH6))
 (.o 30765 [.agg [j 1,v56],zbq] (zIq))))
 (.m 44660 [zA7,zbq] (zGS) (.m 42033 [zHj,zbq] (zJF) (.o 39135 [zAu,zbq] (zGU))
 (.o 44380 [zEz,zbq] (zKu)))
 (.m 58192 [zF0,zbq] (zMH) (.o 51616 [zF2,zbq] (zEq))
 (.o 60912 [zCy,zbq] (zFU))))]
def k5:List (Nat×zJ):=[(100,zxH)]
def zwO:zJ:=[.m 39915 [zLh,zbq] (zKE) (.m 20531 [v57,zbq] (zGg) (.m 9412 [v58,zbq] (zH4) (.m 5118 [v59,zbq] (zMj) (.o 1081 [v60,zbq] (zLm))
 (.l))
 (.o 9415 [zIa,zbq] (zJL)))
 (.m 27485 [v61,zbq] (zGd) (.o 21645 [zJI,zbq] (zIP))
 (.o 35756 [.agg [j 1,v62],zbq] (zFz))))
 (.m 45962 [zG0,zbq] (zML) (.m 44737 [zBJ,zbq] (zJZ) (.o 44520 [v63,zbq] (zIp))
 (.o 44885 [zGi,zbq] (zHN)))
 (.m 57180 [zHW,zbq] (zJ4) (.o 54647 [zBD,zbq] (zMF))
 (.o 59662 [v64,zbq] (zKo))))]
def k6:List (Nat×zJ):=[(100,zwO)]
def zyz:zJ:=[.m 38722 [v9,v21] (v21) (.m 37933 [v9,v22] (v22) (.m 21012 [v65,zbq] (zK5) (.m 20245 [v66,zbq] (zMX) (.o 9837 [v49,zG2] (zhY))
 (.l))
 (.o 30658 [v67,zbq] (zJs)))
 (.m 38462 [v11,v8] (v14) (.o 38203 [v7,v9] (v7))
 (.o 38463 [v28,v8] (v37))))
 (.m 40036 [v22,v17] (.agg [j (-8),.nils]) (.m 38987 [v21,v19] (v68) (.o 38984 [v10,v19] (v10))
 (.o 38992 [v17,v19] (v69)))
 (.m 51247 [v70,zbq] (zK2) (.o 40038 [v8,v17] (v41))
 (.o 51252 [v71,zbq] (zMD))))]
def k7:List (Nat×zJ):=[(100,zyz)]
def zv2:zJ:=[.m 37938 [v38,v22] (v19) (.m 37935 [v21,v10] (v10) (.m 37933 [v9,v10] (v10) (.o 37932 [v10,v22] (v10))
 (.o 37934 [v8,v10] (v10)))
 (.m 37937 [v28,v10] (v10) (.o 37936 [v19,v10] (v10))
 (.l)))
 (.m 38985 [v9,v11] (v11) (.m 38206 [v72,v9] (v72) (.o 38200 [v28,v9] (v28))
 (.o 38723 [v8,v21] (v27)))
 (.m 64232 [v10,v42] (v10) (.o 38989 [v28,v11] (v73))
 (.l))),
 .m 37934 [v25,v22] (v8) (.o 37932 [v10,v10] (v10))
 (.l),
 .o 37934 [v25,v10] (v10)]
def k8:List (Nat×zJ):=[(100,zv2)]
def zzl:zJ:=[.m 39575 [v9,v48] (v48) (.m 38458 [v10,v25] (v10) (.m 26622 [v9,v35] (v35) (.m 18915 [v24,v9] (v24) (.o 157 [.agg [j (-11184810),.nils],v21] (.agg [j (-33554430),.nils]))
 (.l))
 (.o 37938 [v38,v10] (v10)))
 (.m 38460 [v8,v25] (v38) (.o 38459 [v9,v25] (v25))
 (.o 39574 [v10,v48] (v10))))
 (.m 42036 [v74,v9] (v74) (.m 39741 [v8,v43] (.agg [j 512,.nils]) (.o 39740 [v9,v43] (v43))
 (.o 39995 [v43,v43] (v75)))
 (.m 42389 [.agg [j 512,.nils],v75] (v35) (.o 42133 [v43,v75] (v76))
 (.o 45875 [v35,v9] (v35))))]
def k9:List (Nat×zJ):=[(100,zzl)]
def zrK:zJ:=[.m 38462 [v11,v25] (v27) (.m 38458 [v10,v8] (v10) (.m 38195 [v10,v9] (v10) (.o 37936 [v11,v10] (v10))
 (.l))
 (.o 38461 [v21,v25] (v14)))
 (.m 42035 [v76,v9] (v76) (.o 38721 [v22,v21] (v11))
 (.o 42296 [.agg [j (-8388608),.nils],v8] (.agg [j (-16777216),.nils]))),
 .m 38721 [v10,v21] (v10) (.o 38461 [v21,v8] (v27))
 (.l)]
def zqk:zJ:=[.m 38201 [v38,v9] (v77) (.m 38197 [v25,v9] (v78) (.o 38196 [v9,v9] (v79))
 (.o 38198 [v21,v9] (v80)))
 (.m 38205 [v14,v9] (v81) (.o 38203 [v17,v9] (v82))
 (.l))]
def k10:List (Nat×zJ):=[(100,zrK),(101,zqk)]
def zrz:zJ:=[.m 38200 [v28,v9] (v83) (.m 38197 [v8,v9] (v84) (.m 38195 [v22,v9] (v85) (.o 7044 [v40,v9] (v86))
 (.l))
 (.o 38199 [v19,v9] (v87)))
 (.m 38206 [v72,v9] (v88) (.o 38201 [v27,v9] (v89))
 (.o 38223 [v73,v9] (v90))),
 .m 38199 [v11,v9] (v91) (.o 38195 [v10,v9] (v92))
 (.l)]
def zrP:zJ:=[.m 16302 [v93] (v94) (.m 5359 [v78] (v84) (.o 5357 [v92] (v92))
 (.l))
 (.m 30898 [v95] (v96) (.o 30896 [v97] (v98))
 (.l)),
 .o 5357 [v85] (v79)]
def k11:List (Nat×zJ):=[(101,zrz),(102,zrP)]
def ztw:zJ:=[.m 5361 [v91] (v80) (.m 5359 [v84] (v78) (.o 5358 [v79] (v85))
 (.o 5360 [v80] (v91)))
 (.m 9005 [v99] (zcr) (.o 7277 [zJn] (zNF))
 (.o 51597 [zG4] (zPD)))]
def zsP:zJ:=[.m 9006 [zcr] (.bool false) (.m 5365 [v82] (.bool false) (.m 5361 [v91] (.bool false) (.o 5357 [v92] (.bool false))
 (.l))
 (.o 5367 [v81] (.bool false)))
 (.m 30894 [zc7] (.bool false) (.o 9013 [zuP] (.bool false))
 (.o 57349 [zBl] (.bool false))),
 .o 5361 [v87] (.bool false)]
def k12:List (Nat×zJ):=[(102,ztw),(107,zsP)]
def zrl:zJ:=[.m 12653 [zpl] (.bool false) (.m 5360 [v80] (.bool false) (.m 5359 [v78] (.bool false) (.o 5358 [v79] (.bool false))
 (.l))
 (.m 10861 [zDf] (.bool false) (.o 5362 [v83] (.bool false))
 (.l)))
 (.m 47466 [zDt] (.bool false) (.m 46761 [zAN] (.bool false) (.o 12655 [zic] (.bool false))
 (.l))
 (.m 62288 [zAw] (.bool false) (.o 62113 [zAn] (.bool false))
 (.l))),
 .o 5359 [v84] (.bool false)]
def zrM:zJ:=[.m 5359 [v84] (j 1) (.m 5358 [v79] (j 1) (.o 5357 [v85] (j (-1)))
 (.l))
 (.o 5361 [v87] (j 1))]
def k13:List (Nat×zJ):=[(107,zrl),(108,zrM)]
def zsZ:zJ:=[.m 9005 [v99] (j (-1)) (.m 5360 [v80] (j 1) (.m 5359 [v78] (j (-1)) (.o 5357 [v92] (j 0))
 (.l))
 (.o 5361 [v91] (j (-1))))
 (.m 9198 [zua] (j 1) (.o 9009 [zot] (j (-1)))
 (.o 12654 [zCw] (j 1)))]
def zrr:zJ:=[.m 28695 [v21] (v80) (.m 28693 [v9] (v79) (.o 28692 [v22] (v85))
 (.o 28694 [v8] (v84)))
 (.m 28700 [v17] (v82) (.o 28696 [v11] (v91))
 (.l)),
 .m 28696 [v19] (v87) (.o 28692 [v10] (v92))
 (.l)]
def k14:List (Nat×zJ):=[(108,zsZ),(111,zrr)]
def zsS:zJ:=[.m 28703 [v72] (v88) (.m 28694 [v25] (v78) (.m 9412 [v24] (zGP) (.o 9411 [zpq] (zG4))
 (.l))
 (.m 28698 [v38] (v77) (.o 28697 [v28] (v83))
 (.l)))
 (.m 36599 [zmU] (.agg [j 1,v45,j 1,.nils]) (.m 32533 [v74] (zua) (.o 30612 [zIW] (zJn))
 (.l))
 (.o 45877 [v39] (zOi))),
 .o 28698 [v27] (v89)]
def zqY:zJ:=[.m 38721 [v10,v21] (v21) (.m 38458 [v10,v8] (v8) (.o 38195 [v10,v9] (v9))
 (.l))
 (.m 39247 [v10,v28] (v28) (.o 38984 [v10,v19] (v19))
 (.l))]
def k15:List (Nat×zJ):=[(111,zsS),(119,zqY)]
def zrE:zJ:=[.m 38197 [v8,v9] (v21) (.m 35436 [v10,v50] (v50) (.m 19324 [zNs,.agg [j 846264338327950288,.nils]] (zOu) (.m 18102 [zi6,zi6] (zGO) (.o 17316 [zFq,.agg [j 1411,.nils]] (zGO))
 (.l))
 (.o 34584 [v44,.agg [j 976,.nils]] (.agg [j 3024,.nils])))
 (.m 37934 [v8,v10] (v8) (.o 37933 [v9,v10] (v9))
 (.o 38196 [v9,v9] (v8))))
 (.m 39609 [zi6,v9] (zuM) (.m 38684 [zOT,.agg [j 419716939937510,.nils]] (zMs) (.o 38459 [v9,v8] (v21))
 (.o 39510 [v10,v27] (v27)))
 (.m 58641 [zaj,.agg [j (-1),v51]] (zPJ) (.o 40036 [v10,v17] (v17))
 (.o 59525 [zIF,.agg [j 1322,.nils]] (.agg [j 2834,.nils]))))]
def k16:List (Nat×zJ):=[(119,zrE)]
def zsc:zJ:=[.m 22725 [zOs,v59] (zNf) (.m 12706 [zPb,zBD] (zOZ) (.m 10257 [zNT,.agg [j (-1),v54]] (zPx) (.m 6588 [zN7,.agg [j (-1),v53]] (zNe) (.o 3745 [zOn,.agg [j (-1),v55]] (zOt))
 (.l))
 (.o 12138 [zNI,.agg [j (-1),v56]] (zPf)))
 (.m 18235 [zNe,zBJ] (zPp) (.o 17430 [zPf,zCy] (zNT))
 (.o 22433 [zOy,.agg [j (-91810290),.nils]] (zPP))))
 (.m 53337 [zPJ,zA7] (zNI) (.m 31748 [zPp,.agg [j (-1),v62]] (zPb) (.o 29295 [zNf,.agg [j (-268556931493155),.nils]] (zOv))
 (.o 43670 [zOt,zCm] (zN7)))
 (.m 60309 [zOZ,.agg [j (-1),w [3045029095724553698,25]]] (zOs) (.o 57735 [zPx,zAu] (zOn))
 (.o 63469 [zOv,v61] (zOy))))]
def k17:List (Nat×zJ):=[(119,zsc)]
def zsu:zJ:=[.m 39609 [zt0,v9] (v36) (.m 38930 [zA2,v39] (zt3) (.m 38461 [v21,v8] (v28) (.m 37932 [v10,v10] (v10) (.o 37110 [zA2,.agg [j (-1000000),.nils]] (zvJ))
 (.l))
 (.o 38902 [v16,v9] (zmz)))
 (.m 39510 [v22,v27] (v28) (.o 39344 [v36,v22] (zt0))
 (.o 39514 [v19,v38] (v10))))
 (.m 40570 [v17,v14] (v8) (.m 40044 [v17,v7] (v21) (.o 40040 [v11,v17] (v28))
 (.o 40224 [zNO,v10] (zA2)))
 (.m 45221 [zPP,v67] (zNP) (.o 41620 [v38,.agg [j (-8),.nils]] (zv7))
 (.o 54689 [zNP,.agg [j (-19),.nils]] (zNO))))]
def k18:List (Nat×zJ):=[(119,zsu)]
def zr1:zJ:=[.m 38985 [v9,v19] (v28) (.m 37937 [v28,v10] (v28) (.m 37932 [v22,v10] (v22) (.m 29936 [v74,.agg [j (-16777216),.nils]] (v9) (.o 21412 [v35,.agg [j (-33554430),.nils]] (v8))
 (.l))
 (.o 37935 [v21,v10] (v21)))
 (.m 38725 [v11,v21] (v10) (.o 38460 [v8,v25] (v10))
 (.o 38984 [v10,v11] (v11))))
 (.m 40568 [v27,v14] (v10) (.m 39515 [v28,v38] (v9) (.o 38987 [v21,v11] (v10))
 (.o 40566 [v19,v14] (v25)))
 (.m 45307 [v72,v73] (v38) (.o 40825 [v10,v72] (v72))
 (.o 65300 [v10,v74] (v74))))]
def k19:List (Nat×zJ):=[(119,zr1)]
def zqH:zJ:=[.m 37934 [v25,v10] (v25) (.o 37932 [v10,v22] (v22))
 (.o 38460 [v25,v8] (v10))]
def zrJ:zJ:=[.m 26590 [.bool false,j 4] (j 0) (.m 26064 [.bool false,j 2] (j 0) (.o 25801 [.bool false,j 1] (j 0))
 (.o 26327 [.bool false,j 3] (j 0)))
 (.m 28431 [.bool false,j 11] (j 0) (.o 26853 [.bool false,j 5] (j 0))
 (.o 28694 [.bool false,j 12] (j 0)))]
def zq3:zJ:=[.m 34670 [.vsl true 3 [j 0,j 0,j 0]] (j 0) (.o 27379 [.vsl true 2 [j 0,j 0]] (j 0))
 (.o 51832 [.vsl true 4 [j 0,j 0,j 0,j 0]] (j 0))]
def zrZ:zJ:=[.m 2148 [v1] (.bool true) (.o 2147 [v0] (.bool true))
 (.o 2151 [v29] (.bool true))]
def k20:List (Nat×zJ):=[(119,zqH),(124,zrJ),(125,zq3),(129,zrZ)]
def zsn:zJ:=[.m 2152 [.str [54]] (.bool true) (.m 2149 [v6] (.bool true) (.o 2146 [v2] (.bool true))
 (.o 2150 [v5] (.bool true)))
 (.m 15011 [ztM] (.bool true) (.o 2154 [v18] (.bool true))
 (.o 15572 [zwY] (.bool true)))]
def zse:zJ:=[.m 38466 [v7,v8] (.tup [v11,v9]) (.m 38199 [v19,v9] (.tup [v19,v10]) (.m 38197 [v8,v9] (zwZ) (.o 38196 [v9,v9] (ztC))
 (.l))
 (.o 38463 [v28,v8] (.tup [v8,v9])))
 (.m 38985 [v9,v19] (zvb) (.m 38749 [v73,v21] (.tup [v7,v10]) (.o 38727 [v27,v21] (zwZ))
 (.l))
 (.o 39525 [ztU,v27] (.tup [v8,v21])))]
def k21:List (Nat×zJ):=[(129,zsn),(164,zse)]
def zqv:zJ:=[.m 38466 [v17,v8] (.tup [v19,v10]) (.m 38459 [v9,v8] (zvb) (.m 21237 [v40,v44] (.tup [.agg [j 976,.nils],.agg [j 1152,.nils]]) (.m 11311 [v40,zIF] (.tup [.agg [j 1322,.nils],.agg [j 1136,.nils]]) (.o 7044 [v40,v9] (.tup [v40,v10]))
 (.l))
 (.o 38203 [v17,v9] (.tup [v17,v10])))
 (.m 38461 [v21,v8] (.tup [v9,v9]) (.o 38460 [v8,v8] (ztC))
 (.o 38462 [v19,v8] (zwZ))))
 (.m 41286 [zGO,v8] (.tup [zi6,v10]) (.m 40037 [v9,v17] (zvb) (.o 38986 [v8,v19] (zzq))
 (.o 40038 [v8,v17] (zzq)))
 (.m 41482 [.agg [j 3024,.nils],v8] (.tup [zIF,v10]) (.o 41292 [.agg [j 2834,.nils],v8] (.tup [zFq,v10]))
 (.o 51847 [v40,zFq] (.tup [.agg [j 1411,.nils],.agg [j 613,.nils]]))))]
def k22:List (Nat×zJ):=[(164,zqv)]
def zr2:zJ:=[.m 40262 [zi6,v31] (.tup [v9,zIM]) (.m 38464 [v27,v8] (zA0) (.m 17536 [zES,zHJ] (.tup [v8,zGH]) (.m 17035 [v31,zES] (.tup [v8,zHJ]) (.o 16772 [v31,zIM] (.tup [v8,zGr]))
 (.l))
 (.o 18061 [zIM,zGr] (.tup [v8,zFj])))
 (.m 39542 [v69,v27] (.tup [v28,v8]) (.o 39458 [v31,v8] (.tup [v13,v10]))
 (.o 39872 [zi6,v8] (.tup [v16,v10]))))
 (.m 46418 [zFj,v69] (.tup [v8,v27]) (.m 41897 [zB9,ztU] (.tup [v9,v28]) (.o 40263 [zuM,v31] (.tup [v9,zES]))
 (.o 43267 [zGH,zB9] (.tup [v21,ztU])))
 (.m 56514 [zGr,zFj] (.tup [v8,v69]) (.o 51058 [v40,zi6] (.tup [zi6,.agg [j 604,.nils]]))
 (.o 57827 [zHJ,zGH] (.tup [v8,zB9]))))]
def k23:List (Nat×zJ):=[(164,zr2)]
def zrC:zJ:=[.m 39511 [v9,v27] (zvb) (.m 37218 [zBw,v68] (.tup [zA7,v27]) (.m 16985 [zGl,zaj] (.tup [zHU,.agg [j 1,.vsl false 3 [u 1235828631747698810,u 1079552342813895860,u 113493716422]]]) (.m 15847 [zH6,zaj] (.tup [zBw,.agg [j 1,.vsl false 3 [u 7173920219356902912,u 14913013201911312773,u 249251386827]]]) (.o 2872 [.agg [j 1,zCX],v8] (.tup [zbq,v9]))
 (.l))
 (.o 26707 [zGS,zaj] (.tup [zHj,.agg [j 1,.vsl false 3 [u 1746377658667505148,u 1599727212568632173,u 227174926597]]])))
 (.m 38992 [v17,v19] (zwZ) (.o 38201 [v27,v9] (.tup [v27,v10]))
 (.o 39262 [ztU,v28] (zA0))))
 (.m 45348 [zBq,v8] (.tup [.agg [j 1,v51],v9]) (.m 40662 [zuM,v28] (.tup [v32,v10]) (.o 40247 [v31,v28] (.tup [v20,v10]))
 (.o 44631 [zLM,zaj] (.tup [zBq,.agg [j 1,.vsl false 3 [u 421539611954999217,u 13196361294450075735,u 272546525667]]])))
 (.m 47943 [zmU,v17] (.tup [zbq,v19]) (.o 46891 [zmU,v19] (.tup [.agg [j 1,zCX],v10]))
 (.o 51269 [zJe,zaj] (.tup [zFl,v10]))))]
def k24:List (Nat×zJ):=[(164,zrC)]
def zqM:zJ:=[.m 39824 [zEq,zaj] (.tup [zBO,.agg [j 1,.vsl false 3 [u 3957293859378521763,u 1070264078444544701,u 39820490084]]]) (.m 23221 [zJF,zaj] (.tup [zAy,.agg [j 1,.vsl false 3 [u 5049880919036410662,u 15456940594375998285,u 108881395591]]]) (.m 12502 [zAy,zHl] (.tup [.agg [j 1,v56],.agg [j 18,.nils]]) (.m 6417 [zFy,zaj] (.tup [zGR,.agg [j 1,.vsl false 3 [u 2236115821013113877,u 5139296421525228835,u 214964783928]]]) (.o 1506 [zIq,zaj] (.tup [zJh,.agg [j 1,.vsl false 3 [u 1282353773684968516,u 3289625660447247870,u 196580211114]]]))
 (.l))
 (.o 21468 [zCC,.agg [j 182,.nils]] (.tup [.agg [j 1,v55],.agg [j 123,.nils]])))
 (.m 35418 [zAf,.agg [j 56,.nils]] (.tup [zCy,v19]) (.o 25241 [zFU,zaj] (.tup [zF2,.agg [j 1,.vsl false 3 [u 4818490623631867340,u 16394987128794677289,u 272389265430]]]))
 (.o 39132 [zBO,.agg [j 90,.nils]] (.tup [.agg [j 1,v54],v72]))))
 (.m 49018 [zKu,zaj] (.tup [zCC,.agg [j 1,.vsl false 3 [u 2523625169501610171,u 17067363556509273432,u 75021796449]]]) (.m 44138 [zHX,zaj] (.tup [zHf,.agg [j 1,.vsl false 3 [u 15320273221443061843,u 12503505949779772,u 151336667214]]]) (.o 40594 [zL3,zaj] (.tup [zBK,.agg [j 1,.vsl false 3 [u 6473246494091955159,u 4262437969390320619,u 292627674578]]]))
 (.o 45093 [zGU,zaj] (.tup [zEz,.agg [j 1,.vsl false 3 [u 14523843154860188619,u 14361084977088776627,u 276609180204]]])))
 (.m 54294 [zEX,zaj] (.tup [zz3,.agg [j 1,.vsl false 3 [u 15840774403327411665,u 11942699833789439100,u 140357623712]]]) (.o 51549 [zz3,.agg [j 132,.nils]] (.tup [zAu,.agg [j 50,.nils]]))
 (.o 58347 [zMt,zaj] (.tup [zAf,.agg [j 1,.vsl false 3 [u 17863603311630982995,u 11726035622108506063,u 25133904187]]]))))]
def k25:List (Nat×zJ):=[(164,zqM)]
def zqp:zJ:=[.m 27885 [zHN,zaj] (.tup [zz4,.agg [j 1,.vsl false 3 [u 8746584666257613248,u 12575681850306854528,u 44808278737]]]) (.m 8933 [zMH,zaj] (.tup [zCJ,.agg [j 1,.vsl false 3 [u 18170290448945823725,u 4863456854025250333,u 177576882805]]]) (.m 6609 [zFz,zaj] (.tup [zGi,.agg [j 1,.vsl false 3 [u 1230989211628645002,u 1159565562802114719,u 17798937139]]]) (.m 5976 [zIP,zaj] (.tup [zA8,.agg [j 1,.vsl false 3 [u 15181002372271313457,u 15855354825785105609,u 127223305244]]]) (.o 5494 [zAD,.agg [j 462,.nils]] (.tup [.agg [j 1,v62],.agg [j 109,.nils]]))
 (.l))
 (.o 8107 [zBz,.agg [j 650,.nils]] (.tup [zHW,.agg [j 138,.nils]])))
 (.m 16322 [zMF,zaj] (.tup [zG0,.agg [j 1,.vsl false 3 [u 6359753310305933972,u 12002794089071725076,u 130763764821]]]) (.o 10208 [zHe,zaj] (.tup [zF0,.agg [j 1,.vsl false 3 [u 2390991103675935201,u 2398540852768645950,u 183800717753]]]))
 (.o 17484 [zCJ,.agg [j 306,.nils]] (.tup [.agg [j 1,v53],.agg [j 109,.nils]]))))
 (.m 50063 [zKw,zaj] (.tup [zJI,.agg [j 1,.vsl false 3 [u 1363536335835424732,u 1604162463768968710,u 264198958956]]]) (.m 35274 [zML,zaj] (.tup [zBz,.agg [j 1,.vsl false 3 [u 8799859423424730889,u 18345504288447267381,u 151275892387]]]) (.o 31596 [zz4,.agg [j 552,.nils]] (.tup [zBD,.agg [j 265,.nils]]))
 (.o 46549 [zJL,zaj] (.tup [zAD,.agg [j 1,.vsl false 3 [u 6844174947456487896,u 7934601446456017395,u 26722947584]]])))
 (.m 58276 [zA8,.agg [j 380,.nils]] (.tup [zBJ,.agg [j 160,.nils]]) (.o 52971 [zJZ,zaj] (.tup [zIa,.agg [j 1,.vsl false 3 [u 8692097415552468201,u 12762717506135777163,u 59332127679]]]))
 (.o 58578 [zBK,.agg [j 240,.nils]] (.tup [zCm,.agg [j 213,.nils]]))))]
def k26:List (Nat×zJ):=[(164,zqp)]
def ztm:zJ:=[.m 30325 [zJ4,zaj] (.tup [zLh,.agg [j 1,.vsl false 3 [u 1579144640813099602,u 7733978210614872140,u 131240361634]]]) (.m 18179 [zAE,.agg [j 1122,.nils]] (.tup [v60,.agg [j 771,.nils]]) (.m 9739 [zMj,zaj] (.tup [v64,.agg [j 1,.vsl false 3 [u 7290936844905413076,u 11398232400322276176,u 7413401391]]]) (.m 9243 [zKo,zaj] (.tup [zA4,.agg [j 1,.vsl false 3 [u 13587521312188827580,u 11758254733816970059,u 65734798861]]]) (.o 1584 [zCG,.agg [j 992,.nils]] (.tup [v61,.agg [j 817,.nils]]))
 (.l))
 (.o 13230 [zKE,zaj] (.tup [zBC,.agg [j 1,.vsl false 3 [u 349461191194858758,u 622604278883827451,u 36576459784]]])))
 (.m 26135 [zGd,zaj] (.tup [v58,.agg [j 1,.vsl false 3 [u 16048122460062088079,u 6651628531624551829,u 221869364373]]]) (.o 18972 [zMX,zaj] (.tup [zCa,.agg [j 1,.vsl false 3 [u 7609138115395105961,u 16981135940981975920,u 154323963535]]]))
 (.o 29390 [zJs,zaj] (.tup [v65,.agg [j 1,.vsl false 3 [u 8468261177957575298,u 8940698426691163316,u 148656560223]]]))))
 (.m 46446 [zBC,.agg [j 756,.nils]] (.tup [v59,v37]) (.m 32606 [zIp,zaj] (.tup [v57,.agg [j 1,.vsl false 3 [u 5065919791669400907,u 16506561736487297484,u 83028630264]]]) (.o 30929 [zGg,zaj] (.tup [zCG,.agg [j 1,.vsl false 3 [u 10858523675194609978,u 3257907593705100571,u 81099056982]]]))
 (.o 43783 [zH4,zaj] (.tup [zAE,.agg [j 1,.vsl false 3 [u 15490361791363993244,u 6078422657748804733,u 12337586889]]])))
 (.m 61455 [zA4,.agg [j 870,.nils]] (.tup [v63,.agg [j 217,.nils]]) (.o 57597 [zLm,zaj] (.tup [v66,.agg [j 1,.vsl false 3 [u 6367995094100048354,u 17496855401415799788,u 43195630703]]]))
 (.o 64765 [zCa,.agg [j 1260,.nils]] (.tup [v67,.agg [j 1242,.nils]]))))]
def k27:List (Nat×zJ):=[(164,ztm)]
def zsX:zJ:=[.m 32691 [zIX,zIY] (.tup [v8,zL8]) (.m 19705 [zIC,zH0] (.tup [v8,zGK]) (.m 15280 [zMD,zaj] (.tup [v70,.agg [j 1,.vsl false 3 [u 18072714473608393915,u 9602986640170551272,u 271117517166]]]) (.m 7995 [zHH,zLQ] (.tup [v28,zHG]) (.o 5343 [zGK,zHD] (.tup [v8,zHH]))
 (.l))
 (.o 18392 [zK2,zaj] (.tup [v37,.agg [j 1,.vsl false 3 [u 8706354635702509598,u 17203401714586090397,u 292572987713]]])))
 (.m 25369 [zHD,zHH] (.tup [v9,zLQ]) (.o 20207 [zLQ,zHG] (.tup [v9,zFf]))
 (.o 27890 [zFf,zIX] (.tup [v8,zIY]))))
 (.m 46786 [zK5,zaj] (.tup [zC4,.agg [j 1,.vsl false 3 [u 6276526027401755076,u 4281137798239609278,u 163149191346]]]) (.m 42928 [zH0,zGK] (.tup [v9,zHD]) (.o 42308 [zC4,.agg [j 1406,.nils]] (.tup [v71,.agg [j 1010,.nils]]))
 (.o 43711 [zHG,zFf] (.tup [v9,zIX])))
 (.m 55096 [v37,.agg [j 1560,.nils]] (.tup [v10,v37]) (.o 52492 [zhY,zIC] (.tup [zFG,zH0]))
 (.o 64035 [zvJ,zhY] (.tup [v16,zIC]))))]
def k28:List (Nat×zJ):=[(164,zsX)]
def zq9:zJ:=[.m 40200 [zFB,zLk] (.tup [v21,zMQ]) (.m 7360 [zMU,zMG] (.tup [v8,zHQ]) (.m 4417 [zEY,zFn] (.tup [v8,zIG]) (.m 3666 [zKZ,zIN] (.tup [v8,zEY]) (.o 3318 [zMQ,zKq] (.tup [v9,zFS]))
 (.l))
 (.o 6857 [zFS,zJ9] (.tup [zwg,zMn])))
 (.m 32256 [zFn,zIG] (.tup [v9,zFB]) (.o 30442 [zJ9,zMn] (.tup [v9,zMU]))
 (.o 38006 [zMG,zHQ] (.tup [v9,zMP]))))
 (.m 58625 [zIG,zFB] (.tup [v9,zLk]) (.m 52281 [zKq,zFS] (.tup [v8,zJ9]) (.o 42059 [zLk,zMQ] (.tup [v8,zKq]))
 (.o 53079 [zL8,zKZ] (.tup [v17,zIN])))
 (.m 62130 [zMn,zMU] (.tup [v21,zMG]) (.o 60543 [zIY,zL8] (.tup [v21,zKZ]))
 (.o 62949 [zIN,zEY] (.tup [.agg [j 28,.nils],zFn]))))]
def k29:List (Nat×zJ):=[(164,zq9)]
def zsr:zJ:=[.m 42089 [zKa,zFF] (.tup [v9,zKR]) (.m 32816 [zHx,zKh] (.tup [v21,zL6]) (.m 14349 [zFg,zKn] (.tup [v9,zHx]) (.m 8250 [zFQ,zE8] (.tup [v9,zFr]) (.o 427 [zMM,zLw] (.tup [v8,zKa]))
 (.l))
 (.o 30531 [zHQ,zMP] (.tup [v8,zFQ])))
 (.m 35160 [zLw,zKa] (.tup [v19,zFF]) (.o 34538 [zE8,zFr] (.tup [v17,zFg]))
 (.o 38102 [zMY,zMM] (.tup [v9,zLw]))))
 (.m 58975 [zKh,zL6] (.tup [v21,zIh]) (.m 56034 [zFF,zKR] (.tup [v9,zKr]) (.o 51753 [zL6,zIh] (.tup [v19,zMY]))
 (.o 57997 [zKn,zHx] (.tup [v27,zKh])))
 (.m 62478 [zFr,zFg] (.tup [v19,zKn]) (.o 60603 [zIh,zMY] (.tup [v9,zMM]))
 (.o 64554 [zMP,zFQ] (.tup [v9,zE8]))))]
def k30:List (Nat×zJ):=[(164,zsr)]
def ztd:zJ:=[.m 39774 [zKR,zKr] (.tup [v9,zMc]) (.m 12557 [zIc,zFD] (.tup [v28,zKp]) (.m 9680 [zHi,zIS] (.tup [zHl,zEE]) (.m 6224 [zHC,zHi] (.tup [zDp,zIS]) (.o 2037 [zJR,zHC] (.tup [v9,zHi]))
 (.l))
 (.o 10228 [zIS,zEE] (.tup [v9,zIc])))
 (.m 22616 [zFD,zKp] (.tup [v9,zGW]) (.o 20970 [zK0,zIo] (.tup [zDp,zEB]))
 (.o 30027 [zKV,zJR] (.tup [v9,zHC]))))
 (.m 51390 [zEE,zIc] (.tup [v9,zFD]) (.m 43866 [zMc,zKV] (.tup [v9,zJR]) (.o 41638 [zEB,zE5] (.tup [v9,zFA]))
 (.o 51301 [zGW,zK0] (.tup [v9,zIo])))
 (.m 60015 [zKr,zMc] (.tup [v21,zKV]) (.o 53305 [zIo,zEB] (.tup [v9,zE5]))
 (.o 64052 [zKp,zGW] (.tup [v19,zK0]))))]
def k31:List (Nat×zJ):=[(164,ztd)]
def zqB:zJ:=[.m 44712 [zIe,zET] (.tup [v9,zKA]) (.m 40942 [zKA,zIl] (.tup [.agg [j 34,.nils],zIQ]) (.m 30382 [zJ0,zEC] (.tup [v21,zF1]) (.m 14716 [zL4,zGF] (.tup [v28,zIe]) (.o 9615 [zF1,zL4] (.tup [v9,zGF]))
 (.l))
 (.o 35632 [zHE,zFs] (.tup [v9,zJ0])))
 (.m 41702 [zET,zKA] (.tup [v9,zIl]) (.o 41184 [zGF,zIe] (.tup [v21,zET]))
 (.o 44031 [zIk,zKj] (.tup [v8,zKb]))))
 (.m 57848 [zIQ,zIk] (.tup [v8,zKj]) (.m 48081 [zIl,zIQ] (.tup [v21,zIk]) (.o 45650 [zKj,zKb] (.tup [v8,zKf]))
 (.o 51920 [zEC,zF1] (.tup [v9,zL4])))
 (.m 65078 [zE5,zFA] (.tup [v68,zHE]) (.o 63534 [zFs,zJ0] (.tup [v21,zEC]))
 (.o 65371 [zFA,zHE] (.tup [.agg [j 53,.nils],zFs]))))]
def k32:List (Nat×zJ):=[(164,zqB)]
def ztj:zJ:=[.m 27146 [zIH,zKU] (.tup [v9,zEP]) (.m 21221 [zKf,zMg] (.tup [v9,zL5]) (.m 14870 [zLV,zGv] (.tup [v8,zLX]) (.m 8469 [zGv,zLX] (.tup [v9,zLd]) (.o 784 [zL5,zLc] (.tup [zDp,zH1]))
 (.l))
 (.o 17574 [zMg,zL5] (.tup [v27,zLc])))
 (.m 23404 [zLd,zMZ] (.tup [v9,zJP]) (.o 22997 [zLX,zLd] (.tup [v9,zMZ]))
 (.o 23811 [zJP,zHB] (.tup [ztU,zKB]))))
 (.m 39672 [zH1,zK3] (.tup [v9,zIH]) (.m 28595 [zKb,zKf] (.tup [v21,zMg]) (.o 27866 [zEP,zLV] (.tup [v8,zGv]))
 (.o 37525 [zMZ,zJP] (.tup [v9,zHB])))
 (.m 57909 [zLc,zH1] (.tup [v9,zK3]) (.o 56169 [zK3,zIH] (.tup [v21,zKU]))
 (.o 61745 [zKU,zEP] (.tup [v17,zLV]))))]
def k33:List (Nat×zJ):=[(164,ztj)]
def zrc:zJ:=[.m 42172 [v69,v41] (zwZ) (.m 12532 [zJ3,zFk] (.tup [v9,zGb]) (.m 6351 [zhY,v41] (.tup [zAP,v10]) (.m 6283 [zFZ,zLO] (.tup [v9,zFO]) (.o 2340 [zHB,zKB] (.tup [v9,zHh]))
 (.l))
 (.o 8026 [zHK,zFT] (.tup [v41,zJ3])))
 (.m 27451 [zGb,zFZ] (.tup [v9,zLO]) (.o 15608 [zHh,zG3] (.tup [v9,zHK]))
 (.o 37267 [zFT,zJ3] (.tup [v9,zFk]))))
 (.m 50496 [zKB,zHh] (.tup [v19,zG3]) (.m 45726 [zvJ,v41] (.tup [.agg [j 1,zzE],v10]) (.o 45514 [zG3,zHK] (.tup [v9,zFT]))
 (.o 46396 [zvk,v69] (.tup [v9,v41])))
 (.m 59100 [zLO,zFO] (.tup [v9,zvk]) (.o 50636 [zFO,zvk] (.tup [v9,v69]))
 (.o 62667 [zFk,zGb] (.tup [v28,zFZ]))))]
def k34:List (Nat×zJ):=[(164,zrc)]
def zsQ:zJ:=[.m 29580 [zI4,zEN] (.tup [v21,zME]) (.m 24387 [zLK,zEI] (.tup [v9,zGs]) (.m 22936 [zMV,zLK] (.tup [v9,zEI]) (.m 13113 [zHc,zMR] (.tup [v8,zHp]) (.o 9320 [zHp,zMV] (.tup [v28,zLK]))
 (.l))
 (.o 23517 [zEN,zME] (.tup [v17,zGI])))
 (.m 27037 [.agg [j 1,zzE],zAP] (.tup [v16,.agg [j 1,.vsl false 3 [u 14324738801190271189,u 11979060741096308869,u 1961260]]]) (.o 24871 [zMR,zHp] (.tup [v9,zMV]))
 (.o 27058 [zhY,zEM] (.tup [zFG,zEO]))))
 (.m 49943 [zEI,zGs] (.tup [v8,zI4]) (.m 41621 [zEO,zHc] (.tup [v9,zMR]) (.o 35557 [zME,zGI] (.tup [v8,zJo]))
 (.o 49460 [zEM,zEO] (.tup [v8,zHc])))
 (.m 59199 [zGs,zI4] (.tup [v8,zEN]) (.o 54789 [zGI,zJo] (.tup [.agg [j 28,.nils],zG5]))
 (.o 61447 [zt3,zhY] (.tup [v16,zEM]))))]
def k35:List (Nat×zJ):=[(164,zsQ)]
def zqt:zJ:=[.m 25367 [zG5,zLP] (.tup [v9,zHq]) (.m 11202 [zLa,zMu] (.tup [v21,zED]) (.m 8007 [zGn,zLa] (.tup [v9,zMu]) (.m 7261 [zMu,zED] (.tup [v8,zH9]) (.o 5406 [zH9,zJm] (.tup [v8,zGh]))
 (.l))
 (.o 9521 [zH5,zEK] (.tup [v9,zH7])))
 (.m 13303 [zHq,zE7] (.tup [v21,zH5]) (.o 13112 [zLP,zHq] (.tup [v9,zE7]))
 (.o 22598 [zED,zH9] (.tup [v9,zJm]))))
 (.m 37659 [zGh,zJO] (.tup [v9,zHt]) (.m 30810 [zE7,zH5] (.tup [v8,zEK]) (.o 26028 [zJo,zG5] (.tup [v8,zLP]))
 (.o 37362 [zH7,zGn] (.tup [zwg,zLa])))
 (.m 54823 [zJO,zHt] (.tup [v17,zFv]) (.o 38763 [zJm,zGh] (.tup [v9,zJO]))
 (.o 58997 [zEK,zH7] (.tup [v8,zGn]))))]
def k36:List (Nat×zJ):=[(164,zqt)]
def zrx:zJ:=[.m 48740 [zFv,zKM] (.tup [v9,zGe]) (.m 29196 [zK4,zGo] (.tup [v9,zJb]) (.m 26166 [zGe,zJk] (.tup [v21,zJd]) (.m 15445 [zHs,zHw] (.tup [v9,zLY]) (.o 2110 [zFJ,zJ8] (.tup [v9,zL2]))
 (.l))
 (.o 28034 [zKM,zGe] (.tup [v27,zJk])))
 (.m 36435 [zLY,zK4] (.tup [v21,zGo]) (.o 32421 [zHw,zLY] (.tup [v9,zK4]))
 (.o 39631 [zJd,zFJ] (.tup [v19,zJ8]))))
 (.m 61107 [zJk,zJd] (.tup [v21,zFJ]) (.m 59592 [zHt,zFv] (.tup [v19,zKM]) (.o 58482 [zJ8,zL2] (.tup [v9,zMd]))
 (.o 59976 [zLo,zHs] (.tup [v9,zHw])))
 (.m 62868 [zL2,zMd] (.tup [v8,zLo]) (.o 61547 [zMd,zLo] (.tup [v19,zHs]))
 (.o 64369 [zGo,zJb] (.tup [v9,zHY]))))]
def k37:List (Nat×zJ):=[(164,zrx)]
def ztt:zJ:=[.m 33713 [zHY,zHR] (.tup [zFG,zJM]) (.m 9872 [zLs,zEu] (.tup [v9,zF9]) (.m 6503 [zKX,zIb] (.tup [v8,zHu]) (.m 3965 [zEu,zF9] (.tup [v21,zJg]) (.o 774 [zF9,zJg] (.tup [v9,zEx]))
 (.l))
 (.o 8582 [zJb,zHY] (.tup [v9,zHR])))
 (.m 30773 [zHR,zJM] (.tup [v19,zMr]) (.o 29779 [zEx,zJt] (.tup [v28,zJG]))
 (.o 32469 [zJt,zJG] (.tup [v8,zEW]))))
 (.m 50117 [zJM,zMr] (.tup [v9,zHA]) (.m 48414 [zHu,zLs] (.tup [v8,zEu]) (.o 35703 [zMr,zHA] (.tup [.agg [j 203,.nils],zLA]))
 (.o 48797 [zJg,zEx] (.tup [v9,zJt])))
 (.m 54669 [zHA,zLA] (.tup [.agg [j 220,.nils],zKX]) (.o 54303 [zLA,zKX] (.tup [v8,zIb]))
 (.o 63286 [zIb,zHu] (.tup [v9,zLs]))))]
def k38:List (Nat×zJ):=[(164,ztt)]
def zrd:zJ:=[.m 46829 [zLU,zMf] (.tup [v8,zKC]) (.m 31047 [zMq,zMA] (.tup [v8,zJS]) (.m 17845 [zMf,zKC] (.tup [v9,zLp]) (.m 17713 [zHV,zFV] (.tup [v9,zEs]) (.o 6148 [zLp,zMk] (.tup [v37,zJA]))
 (.l))
 (.o 21982 [zMA,zJS] (.tup [v9,zIx])))
 (.m 38339 [zF7,zHV] (.tup [v9,zFV]) (.o 35400 [zJS,zIx] (.tup [.agg [j 47,.nils],zJp]))
 (.o 38829 [zJG,zEW] (.tup [v9,zF7]))))
 (.m 54432 [zEW,zF7] (.tup [v21,zHV]) (.m 49096 [zMk,zJA] (.tup [v9,zMq]) (.o 48535 [zHm,zLU] (.tup [v9,zMf]))
 (.o 53394 [zJA,zMq] (.tup [v19,zMA])))
 (.m 58861 [zKC,zLp] (.tup [v37,zMk]) (.o 58558 [zFV,zEs] (.tup [v9,zHm]))
 (.o 62608 [zEs,zHm] (.tup [.agg [j 27,.nils],zLU]))))]
def k39:List (Nat×zJ):=[(164,zrd)]
def zsL:zJ:=[.m 43138 [zt3,v41] (.tup [.agg [j 1,zy8],v10]) (.m 26523 [zF6,zE9] (.tup [v21,zMB]) (.m 10495 [.agg [j 1,zy8],zAP] (.tup [v16,.agg [j 1,.vsl false 3 [u 14324738801190396189,u 11979060741096308869,u 1961260]]]) (.m 8735 [zLj,zIi] (.tup [v37,zI1]) (.o 3571 [zFL,zLj] (.tup [v8,zIi]))
 (.l))
 (.o 16928 [zE9,zMB] (.tup [v19,zJr])))
 (.m 39555 [v16,v31] (.tup [v10,v16]) (.o 27726 [zEV,zFL] (.tup [zDp,zLj]))
 (.o 42188 [zvk,v41] (zA0))))
 (.m 55324 [zJr,zE6] (.tup [v17,zvk]) (.m 48222 [zI1,zF6] (.tup [v21,zE9]) (.o 47727 [zIx,zJp] (.tup [v19,zEV]))
 (.o 50620 [zE6,zvk] (.tup [v9,v41])))
 (.m 61309 [zJp,zEV] (.tup [zB9,zFL]) (.o 57034 [zMB,zJr] (.tup [v28,zE6]))
 (.o 61973 [zIi,zI1] (.tup [v9,zF6]))))]
def k40:List (Nat×zJ):=[(164,zsL)]
def zrT:zJ:=[.m 40072 [zLN,v17] (.tup [v19,v19]) (.m 38902 [v16,v9] (.tup [v16,v10]) (.m 28310 [v31,v16] (.tup [v9,zGA]) (.m 5315 [zMK,zMT] (.tup [v8,zKT]) (.o 4527 [zGA,zIR] (.tup [v8,zJl]))
 (.l))
 (.o 28573 [v31,zmz] (.tup [v9,zMK])))
 (.m 39523 [zwg,v27] (.tup [v8,v9]) (.o 39195 [v31,v9] (.tup [v31,v10]))
 (.o 39556 [zmz,v31] (.tup [v10,zmz]))))
 (.m 49628 [zMT,zKT] (.tup [v8,zLN]) (.m 42980 [zJl,v71] (.tup [v8,zwg]) (.o 41370 [v71,zwg] (.tup [v9,v27]))
 (.o 47444 [zKT,zLN] (.tup [v9,v17])))
 (.m 50177 [v16,zGA] (.tup [v8,zIR]) (.o 49915 [zmz,zMK] (.tup [v8,zMT]))
 (.o 51466 [zIR,zJl] (.tup [v8,v71]))))]
def k41:List (Nat×zJ):=[(164,zrT)]
def zqO:zJ:=[.m 39984 [v31,v19] (.tup [v33,v10]) (.m 39006 [zv7,v19] (.tup [v11,v10]) (.m 38726 [v28,v21] (.tup [v9,v8]) (.m 38200 [v28,v9] (.tup [v28,v10]) (.o 38198 [v21,v9] (zA0))
 (.l))
 (.o 38729 [v17,v21] (.tup [v8,v8])))
 (.m 39255 [v17,v28] (.tup [v9,v21]) (.o 39016 [v69,v19] (.tup [v17,v10]))
 (.o 39692 [zmz,v19] (.tup [v30,v10]))))
 (.m 40048 [v68,v17] (.tup [v9,v19]) (.m 40040 [v11,v17] (.tup [v22,v28]) (.o 40039 [v21,v17] (.tup [v10,v21]))
 (.o 40041 [v28,v17] (.tup [v10,v28])))
 (.m 42142 [v8,v41] (zzq) (.o 41120 [v69,v68] (.tup [v8,v17]))
 (.o 46360 [v68,v69] (.tup [v10,v68]))))]
def k42:List (Nat×zJ):=[(164,zqO)]
def zqK:zJ:=[.m 38723 [v8,v21] (zzq) (.m 38195 [v10,v9] (zyZ) (.m 20089 [v35,v24] (.tup [v8,zpq]) (.o 7341 [v24,v35] (.tup [v10,v24]))
 (.o 26622 [v9,v35] (zvb)))
 (.m 38474 [v41,v8] (.tup [v17,v10]) (.o 38458 [v10,v8] (zyZ))
 (.o 38722 [v9,v21] (zvb))))
 (.m 42156 [v41,v41] (ztC) (.m 40398 [zt0,v19] (.tup [v34,v10]) (.o 39607 [v36,v9] (.tup [v36,v10]))
 (.o 42140 [v10,v41] (zyZ)))
 (.m 46401 [v35,v21] (.tup [zpq,v8]) (.o 45875 [v35,v9] (.tup [v35,v10]))
 (.o 58387 [v24,zpq] (.tup [v9,v9])))),
 .o 38195 [v22,v9] (.tup [v22,v10])]
def k43:List (Nat×zJ):=[(164,zqK)]
def zrf:zJ:=[.m 38724 [v21,v21] (ztC) (.m 38199 [v11,v9] (.tup [v11,v10]) (.m 18915 [v24,v9] (.tup [v24,v10]) (.o 18914 [zpq,v9] (.tup [zpq,v10]))
 (.o 38197 [v25,v9] (.tup [v25,v10])))
 (.m 38721 [v10,v21] (zyZ) (.o 38460 [v25,v8] (.tup [v22,v10]))
 (.l)))
 (.m 39516 [v27,v27] (ztC) (.m 38988 [v19,v19] (ztC) (.o 38984 [v10,v19] (zyZ))
 (.o 39512 [v8,v27] (zzq)))
 (.m 42299 [v74,v8] (.tup [zIW,v9]) (.o 42036 [v74,v9] (.tup [v74,v10]))
 (.l)))]
def zsa:zJ:=[.m 53922 [v23,v1] (zpY) (.o 41062 [v0,v1] (zvz))
 (.o 54962 [v12,v5] (zxU))]
def k44:List (Nat×zJ):=[(164,zrf),(187,zsa)]
def zsy:zJ:=[.m 41451 [zA1,zAQ] (.agg [zA1,zAQ]) (.m 28098 [znG,zid] (.agg [znG,zid]) (.m 24930 [zid,zid] (.agg [zid,zid]) (.o 10560 [zB4,zB7] (.agg [zB4,zB7]))
 (.l))
 (.m 41326 [v1,v6] (.agg [v1,v6]) (.o 34640 [zBP,zDx] (.agg [zBP,zDx]))
 (.l)))
 (.m 41855 [v29,v29] (.agg [v29,v29]) (.m 41590 [v6,v5] (.agg [v6,v5]) (.o 41587 [v2,v5] (.agg [v2,v5]))
 (.l))
 (.m 56785 [v15,v18] (.agg [v15,v18]) (.o 42643 [v5,v18] (zAz))
 (.l)))]
def zqz:zJ:=[.m 2148 [v1] (.agg [v1,v1]) (.m 2147 [v0] (zxt) (.o 2146 [v2] (.agg [v2,v2]))
 (.l))
 (.m 15007 [v23] (.agg [v23,v23]) (.o 2149 [v6] (.agg [v6,v6]))
 (.l))]
def k45:List (Nat×zJ):=[(187,zsy),(219,zqz)]
def zqG:zJ:=[.m 15264 [v26] (.agg [v26,v26]) (.o 2151 [v29] (.agg [v29,v29]))
 (.l)]
def zqi:zJ:=[.o 24078 [.flt .f32 1051372203] (.bool true)]
def zsU:zJ:=[.o 7 [] (.vmap [v2,zuI,zvn,zCN,zid,.str [50,47,51],.str [51,47,52],.str [53,47,54]] [v0,zid,v2,.str [45,49,47,50],v23,.str [45,49,47,50],v2,zid])]
def ztk:zJ:=[.m 6739 [.flt .f64 4710765210229538816] (.bool false) (.o 178 [.flt .f64 4712266410284285952] (.bool false))
 (.l)]
def zsC:zJ:=[.m 6739 [.flt .f64 4710765210229538816] (.flt .f64 4710765210229538816) (.o 178 [.flt .f64 4712266410284285952] (.flt .f64 4712266410284285952))
 (.l)]
def k46:List (Nat×zJ):=[(219,zqG),(231,zqi),(238,zsU),(246,ztk),(252,zsC)]
def t1:Tr zJ:=(.n 124 zrJ (.n 102 (zrP++ztw) (.n 99 (zDU++zEd) (.n 59 zDS (.n 29 zD4 .l .l) .l) (.n 101 (zqk++zrz) (.n 100 (zza++zyO++zv4++zxz++zxH++zwO++zyz++zv2++zzl++zrK) .l .l) .l)) (.n 111 (zrr++zsS) (.n 108 (zrM++zsZ) (.n 107 (zsP++zrl) .l .l) .l) (.n 119 (zqY++zrE++zsc++zsu++zr1++zqH) .l .l))) (.n 219 (zqz++zqG) (.n 164 (zse++zqv++zr2++zrC++zqM++zqp++ztm++zsX++zq9++zsr++ztd++zqB++ztj++zrc++zsQ++zqt++zrx++ztt++zrd++zsL++zrT++zqO++zqK++zrf) (.n 129 (zrZ++zsn) (.n 125 zq3 .l .l) .l) (.n 187 (zsa++zsy) .l .l)) (.n 246 ztk (.n 238 zsU (.n 231 zqi .l .l) .l) (.n 252 zsC .l .l))))
def T1:List (Tr zJ):=t1::T0
def zzo:zJ:=[.m 46512 [.vsl false 2 [ztO,zvG],.vsl true 2 [ztO,zvG]] (.bool true) (.o 13824 [.vsl false 2 [zvt,zuD],.vsl true 2 [zvt,zuD]] (.bool true))
 (.l)]
def zxA:zJ:=[.m 10861 [zDf] (zAQ) (.m 5367 [v81] (v15) (.m 5361 [v91] (v12) (.o 5357 [v92] (v2))
 (.o 5365 [v82] (v18)))
 (.m 9013 [zuP] (zuT) (.o 9006 [zcr] (zid))
 (.l)))
 (.m 46761 [zAN] (zBP) (.m 30894 [zc7] (znG) (.o 23598 [zm6] (zuI))
 (.o 30898 [v95] (.str [53,47,56])))
 (.m 62113 [zAn] (zDx) (.o 57349 [zBl] (zA1))
 (.l))),
 .o 5361 [v87] (v5)]
def k47:List (Nat×zJ):=[(28,zzo),(46,zxA)]
def zxb:zJ:=[.m 12655 [zic] (v3) (.m 5360 [v80] (v6) (.m 5359 [v78] (v26) (.o 5358 [v79] (v0))
 (.l))
 (.m 12653 [zpl] (v4) (.o 5362 [v83] (v29))
 (.l)))
 (.m 47466 [zDt] (zB7) (.m 21602 [zCb] (zNx) (.o 16302 [v93] (zvn))
 (.l))
 (.o 62288 [zAw] (zB4))),
 .o 5359 [v84] (v1)]
def zxu:zJ:=[.m 37518 [v85,v91] (v80) (.o 36466 [v85,v85] (v79))
 (.o 37520 [v84,v91] (v81)),
 .m 37520 [v84,v87] (v82) (.o 37518 [v85,v87] (v77))
 (.l)]
def k48:List (Nat×zJ):=[(46,zxb),(49,zxu)]
def zwj:zJ:=[.m 36732 [v80,v79] (v80) (.m 36469 [v80,v92] (v92) (.m 36467 [v79,v85] (v85) (.o 35174 [v84,zOi] (v86))
 (.o 36468 [v84,v85] (v78)))
 (.m 36730 [v79,v79] (v79) (.o 36470 [v87,v92] (v92))
 (.o 36731 [v84,v79] (v84))))
 (.m 36994 [v84,v84] (v87) (.m 36734 [v83,v79] (v83) (.o 36733 [v87,v79] (v87))
 (.o 36992 [v85,v84] (v78)))
 (.m 37257 [v84,v80] (v89) (.o 37256 [v79,v80] (v80))
 (.l))),
 .m 36468 [v84,v92] (v92) (.o 36467 [v79,v92] (v92))
 (.l)]
def k49:List (Nat×zJ):=[(49,zwj)]
def zwu:zJ:=[.m 36740 [v88,v79] (v88) (.m 36472 [v77,v92] (v92) (.m 36468 [v78,v92] (v92) (.o 36466 [v92,v92] (v92))
 (.o 36471 [v83,v92] (v92)))
 (.m 36733 [v91,v79] (v91) (.o 36729 [v92,v79] (v92))
 (.o 36735 [v89,v79] (v89))))
 (.m 36995 [v80,v78] (v81) (.m 36993 [v79,v78] (v78) (.o 36992 [v92,v78] (v92))
 (.o 36994 [v84,v78] (v77)))
 (.m 37519 [v79,v91] (v91) (.o 37255 [v92,v80] (v92))
 (.o 37523 [v83,v91] (v90))))]
def zv1:zJ:=[.o 1841 [j 0] (v92)]
def k50:List (Nat×zJ):=[(49,zwu),(69,zv1)]
def zxp:zJ:=[.m 1843 [j 2] (v84) (.o 1842 [j 1] (v79))
 (.o 48082 [j 11184811] (zGP))]
def zzm:zJ:=[.m 37263 [v82,v80] (j 1) (.m 36992 [v85,v84] (j (-1)) (.m 14979 [v93,zc7] (j 1) (.o 7683 [zcr,zc7] (j 1))
 (.o 35726 [zcr,v93] (j 1)))
 (.m 37261 [v77,v80] (j (-1)) (.o 36993 [v79,v84] (j (-1)))
 (.l)))
 (.m 38574 [v87,v82] (j (-1)) (.m 37522 [v91,v87] (j (-1)) (.o 37265 [v81,v80] (j (-1)))
 (.o 38054 [v81,v77] (j (-1))))
 (.m 57614 [zc7,v93] (j (-1)) (.o 39104 [v82,v81] (j 1))
 (.l)))]
def k51:List (Nat×zJ):=[(69,zxp),(71,zzm)]
def zwd:zJ:=[.m 37256 [v79,v80] (j (-1)) (.m 36731 [v78,v79] (j (-1)) (.m 36466 [v85,v85] (j 0) (.o 24283 [v93,zcr] (j (-1)))
 (.o 36730 [v79,v79] (j 0)))
 (.m 36994 [v78,v78] (j 0) (.o 36733 [v87,v79] (j 1))
 (.o 36996 [v87,v78] (j 1))))
 (.m 38050 [v89,v89] (j 0) (.m 37258 [v80,v80] (j 0) (.o 37257 [v84,v80] (j (-1)))
 (.o 37521 [v80,v87] (j (-1))))
 (.m 38879 [v95,zcr] (j 1) (.o 38875 [zc7,zcr] (j (-1)))
 (.o 57616 [v97,v93] (j 1)))),
 .o 36994 [v84,v84] (j 0)]
def k52:List (Nat×zJ):=[(71,zwd)]
def zwD:zJ:=[.m 20636 [zBE,zcr] (j 1) (.m 16987 [zcr,zcr] (j 0) (.o 1891 [zua,zE0] (j 1))
 (.o 20635 [zCw,zcr] (j (-1))))
 (.m 37522 [v87,v87] (j 0) (.o 28996 [zua,zxn] (j (-1)))
 (.l))]
def zyC:zJ:=[.o 5358 [v79] (v79)]
def zyn:zJ:=[.m 36995 [v80,v84] (v83) (.m 36729 [v92,v79] (v79) (.m 36467 [v79,v92] (v79) (.o 36466 [v92,v92] (v92))
 (.l))
 (.o 36992 [v92,v84] (v84)))
 (.m 37519 [v79,v87] (v83) (.m 37518 [v92,v87] (v87) (.o 37255 [v92,v80] (v80))
 (.l))
 (.o 38044 [v85,v89] (v83)))]
def k53:List (Nat×zJ):=[(71,zwD),(73,zyC),(74,zyn)]
def zzM:zJ:=[.m 37521 [v80,v91] (v92) (.m 36471 [v83,v92] (v83) (.m 36469 [v80,v92] (v80) (.o 36468 [v84,v92] (v84))
 (.l))
 (.m 37259 [v91,v80] (v92) (.o 36994 [v84,v78] (v92))
 (.l)))
 (.m 39100 [v87,v81] (v78) (.m 38049 [v83,v77] (v79) (.o 38048 [v87,v77] (v92))
 (.l))
 (.m 43841 [v88,v90] (v77) (.o 39102 [v89,v81] (v92))
 (.l)))]
def zxo:zJ:=[.m 2150 [v5] (j 0) (.m 2148 [v1] (j 0) (.o 2147 [v0] (j 0))
 (.l))
 (.m 15521 [v12] (j 0) (.o 15007 [v23] (j 0))
 (.l))]
def k54:List (Nat×zJ):=[(74,zzM),(86,zxo)]
def zy0:zJ:=[.m 2152 [.str [54]] (j 0) (.m 2149 [v6] (j 0) (.o 2146 [v2] (j 0))
 (.o 2151 [v29] (j 0)))
 (.m 15011 [ztM] (j 0) (.o 2154 [v18] (j 0))
 (.o 15572 [zwY] (j 0)))]
def zqm:zJ:=[.m 39538 [v73,v27] (v21) (.m 38986 [v8,v19] (v8) (.m 38985 [v9,v19] (v9) (.o 38463 [v28,v8] (v9))
 (.l))
 (.o 39511 [v9,v27] (v9)))
 (.m 40262 [zi6,v31] (v8) (.m 40038 [v8,v17] (v8) (.o 40037 [v9,v17] (v9))
 (.l))
 (.o 40263 [zuM,v31] (v28)))]
def k55:List (Nat×zJ):=[(86,zy0),(130,zqm)]
def zrL:zJ:=[.m 40260 [v36,v31] (v9) (.m 39555 [v16,v31] (v9) (.m 38459 [v9,v8] (v9) (.o 38458 [v22,v8] (v9))
 (.o 38460 [v8,v8] (v8)))
 (.m 40039 [v21,v17] (v9) (.o 39556 [zmz,v31] (v19))
 (.o 40041 [v28,v17] (v9))))
 (.m 46370 [zv7,v69] (v19) (.m 42140 [v10,v41] (v41) (.o 40262 [zt0,v31] (v19))
 (.o 42142 [v8,v41] (v8)))
 (.m 61447 [zt3,zhY] (v41) (.o 47943 [zmU,v17] (v19))
 (.o 64035 [zvJ,zhY] (v41)))),
 .o 38458 [v10,v8] (v8)]
def k56:List (Nat×zJ):=[(130,zrL)]
def zsd:zJ:=[.m 38723 [v8,v21] (v9) (.m 38462 [v19,v8] (v8) (.m 26622 [v9,v35] (v9) (.o 7341 [v24,v35] (v9))
 (.l))
 (.m 38722 [v9,v21] (v9) (.o 38721 [v10,v21] (v21))
 (.l)))
 (.m 39516 [v27,v27] (v27) (.m 39512 [v25,v27] (v8) (.o 38984 [v10,v19] (v19))
 (.l))
 (.m 46401 [v35,v21] (v9) (.o 42299 [v74,v8] (v9))
 (.l))),
 .m 38721 [v22,v21] (v9) (.o 38462 [v11,v8] (v9))
 (.o 38723 [v25,v21] (v9))]
def zq5:zJ:=[.m 38749 [v73,v21] (v7) (.o 38727 [v27,v21] (v8))
 (.l)]
def k57:List (Nat×zJ):=[(130,zsd),(148,zq5)]
def zqn:zJ:=[.m 38992 [v17,v19] (v8) (.m 38203 [v17,v9] (v17) (.m 38199 [v19,v9] (v19) (.m 38197 [v8,v9] (v8) (.o 38196 [v9,v9] (v9))
 (.l))
 (.o 38201 [v27,v9] (v27)))
 (.m 38462 [v19,v8] (v8) (.o 38460 [v8,v8] (v9))
 (.o 38466 [v17,v8] (v19))))
 (.m 40662 [zuM,v28] (v32) (.m 39872 [zi6,v8] (v16) (.o 39458 [v31,v8] (v13))
 (.o 40247 [v31,v28] (v20)))
 (.m 46891 [zmU,v19] (.agg [j 1,zCX]) (.o 44631 [zLM,zaj] (zBq))
 (.o 51269 [zJe,zaj] (zFl))))]
def k58:List (Nat×zJ):=[(148,zqn)]
def zrs:zJ:=[.m 37218 [zBw,v68] (zA7) (.m 23221 [zJF,zaj] (zAy) (.m 15847 [zH6,zaj] (zBw) (.m 12502 [zAy,zHl] (.agg [j 1,v56]) (.o 1506 [zIq,zaj] (zJh))
 (.l))
 (.o 16985 [zGl,zaj] (zHU)))
 (.m 26707 [zGS,zaj] (zHj) (.o 25241 [zFU,zaj] (zF2))
 (.o 35418 [zAf,.agg [j 56,.nils]] (zCy))))
 (.m 45348 [zBq,v8] (.agg [j 1,v51]) (.m 39824 [zEq,zaj] (zBO) (.o 39132 [zBO,.agg [j 90,.nils]] (.agg [j 1,v54]))
 (.o 44138 [zHX,zaj] (zHf)))
 (.m 54294 [zEX,zaj] (zz3) (.o 51549 [zz3,.agg [j 132,.nils]] (zAu))
 (.o 58347 [zMt,zaj] (zAf))))]
def k59:List (Nat×zJ):=[(148,zrs)]
def zsb:zJ:=[.m 40594 [zL3,zaj] (zBK) (.m 8933 [zMH,zaj] (zCJ) (.m 6417 [zFy,zaj] (zGR) (.m 5976 [zIP,zaj] (zA8) (.o 5494 [zAD,.agg [j 462,.nils]] (.agg [j 1,v62]))
 (.l))
 (.o 6609 [zFz,zaj] (zGi)))
 (.m 17484 [zCJ,.agg [j 306,.nils]] (.agg [j 1,v53]) (.o 10208 [zHe,zaj] (zF0))
 (.o 21468 [zCC,.agg [j 182,.nils]] (.agg [j 1,v55]))))
 (.m 50063 [zKw,zaj] (zJI) (.m 46549 [zJL,zaj] (zAD) (.o 45093 [zGU,zaj] (zEz))
 (.o 49018 [zKu,zaj] (zCC)))
 (.m 58276 [zA8,.agg [j 380,.nils]] (zBJ) (.o 52971 [zJZ,zaj] (zIa))
 (.o 58578 [zBK,.agg [j 240,.nils]] (zCm))))]
def k60:List (Nat×zJ):=[(148,zsb)]
def zqE:zJ:=[.m 30325 [zJ4,zaj] (zLh) (.m 13230 [zKE,zaj] (zBC) (.m 9243 [zKo,zaj] (zA4) (.m 8107 [zBz,.agg [j 650,.nils]] (zHW) (.o 1584 [zCG,.agg [j 992,.nils]] (v61))
 (.l))
 (.o 9739 [zMj,zaj] (v64)))
 (.m 26135 [zGd,zaj] (v58) (.o 16322 [zMF,zaj] (zG0))
 (.o 27885 [zHN,zaj] (zz4))))
 (.m 35274 [zML,zaj] (zBz) (.m 31596 [zz4,.agg [j 552,.nils]] (zBD) (.o 30929 [zGg,zaj] (zCG))
 (.o 32606 [zIp,zaj] (v57)))
 (.m 46446 [zBC,.agg [j 756,.nils]] (v59) (.o 43783 [zH4,zaj] (zAE))
 (.o 61455 [zA4,.agg [j 870,.nils]] (v63))))]
def k61:List (Nat×zJ):=[(148,zqE)]
def zrq:zJ:=[.m 39692 [zmz,v19] (v30) (.m 18972 [zMX,zaj] (zCa) (.m 18179 [zAE,.agg [j 1122,.nils]] (v60) (.m 15280 [zMD,zaj] (v70) (.o 6351 [zhY,v41] (zAP))
 (.l))
 (.o 18392 [zK2,zaj] (v37)))
 (.m 38902 [v16,v9] (v16) (.o 29390 [zJs,zaj] (v65))
 (.o 39195 [v31,v9] (v31))))
 (.m 46786 [zK5,zaj] (zC4) (.m 43138 [zt3,v41] (.agg [j 1,zy8]) (.o 42308 [zC4,.agg [j 1406,.nils]] (v71))
 (.o 45726 [zvJ,v41] (.agg [j 1,zzE])))
 (.m 57597 [zLm,zaj] (v66) (.o 55096 [v37,.agg [j 1560,.nils]] (v10))
 (.o 64765 [zCa,.agg [j 1260,.nils]] (v67))))]
def k62:List (Nat×zJ):=[(148,zrq)]
def zrg:zJ:=[.m 39016 [v69,v19] (v17) (.m 38200 [v28,v9] (v28) (.m 38198 [v21,v9] (v21) (.m 38195 [v22,v9] (v22) (.o 18915 [v24,v9] (v24))
 (.l))
 (.o 38199 [v11,v9] (v11)))
 (.m 38474 [v41,v8] (v17) (.o 38458 [v10,v8] (v10))
 (.o 39006 [zv7,v19] (v11))))
 (.m 42036 [v74,v9] (v74) (.m 39984 [v31,v19] (v33) (.o 39607 [v36,v9] (v36))
 (.o 40398 [zt0,v19] (v34)))
 (.m 42156 [v41,v41] (v9) (.o 42140 [v10,v41] (v10))
 (.o 45875 [v35,v9] (v35))))]
def k63:List (Nat×zJ):=[(148,zrg)]
def zrU:zJ:=[.m 38724 [v21,v21] (v9) (.m 38464 [v27,v8] (v21) (.m 38460 [v25,v8] (v22) (.o 38197 [v25,v9] (v25))
 (.l))
 (.o 38721 [v10,v21] (v10)))
 (.m 38988 [v19,v19] (v9) (.o 38984 [v10,v19] (v10))
 (.o 39516 [v27,v27] (v9)))]
def ztf:zJ:=[.m 30897 [v98] (v22) (.m 23598 [zm6] (v10) (.m 9013 [zuP] (v11) (.o 5460 [.agg [j 1,zzE,j 1,zwL]] (v16))
 (.l))
 (.o 30894 [zc7] (v10)))
 (.m 39727 [v86] (v40) (.o 38940 [zGM] (zbq))
 (.o 54439 [.agg [j 1,zy8,j 1,zwL]] (v16)))]
def k64:List (Nat×zJ):=[(148,zrU),(149,ztf)]
def zra:zJ:=[.m 16302 [v93] (v10) (.m 12846 [zt1] (zIW) (.o 5357 [v92] (v10))
 (.l))
 (.o 20333 [ztN] (zpq))]
def zsf:zJ:=[.m 55282 [v8,j 11] (v44) (.m 52660 [v37,j 1] (v37) (.m 52651 [v9,j 1] (v9) (.o 26 [v37,j 50] (zaj))
 (.o 52652 [v8,j 1] (v8)))
 (.m 53186 [v37,j 3] (v31) (.o 52923 [v37,j 2] (v42))
 (.l)))
 (.m 58963 [v9,j 25] (v9) (.m 57131 [v37,j 18] (v47) (.o 56342 [v37,j 15] (v49))
 (.l))
 (.m 64758 [v37,j 47] (zhY) (.o 58964 [v8,j 25] (v35))
 (.l)))]
def k65:List (Nat×zJ):=[(149,zra),(155,zsf)]
def zs1:zJ:=[.m 58700 [v9,j 24] (v9) (.o 54501 [v37,j 8] (v48))
 (.o 58701 [v8,j 24] (v76))]
def zst:zJ:=[.m 40798 [v2,v0] (.agg [v2,v2,v0,v0]) (.m 17957 [v0,v26] (.agg [v0,v0,v26,v26]) (.o 15889 [v6,v23] (zMh))
 (.l))
 (.m 41855 [v29,v29] (.agg [v29,v29,v29,v29]) (.o 41062 [v0,v1] (zwV))
 (.l))]
def zrQ:zJ:=[.m 11349 [j 5,j 1,j 12] (j 0) (.m 11347 [j 3,j 1,j 12] (j 0) (.o 11346 [j 2,j 1,j 12] (j 0))
 (.l))
 (.m 49423 [j 3,j 0,j 256] (j 0) (.o 43068 [j 1,j 1,j 2147483646] (j 0))
 (.l))]
def zrX:zJ:=[.o 48388 [zDs] (zmJ),
 .o 48388 [zmJ] (zDs)]
def zsh:zJ:=[.o 23873 [.flt .f64 4712266410284285952,j 0] (.bool false)]
def k66:List (Nat×zJ):=[(155,zs1),(196,zst),(206,zrQ),(222,zrX),(245,zsh)]
def zq7:zJ:=[.o 30434 [.flt .f64 4710765210229538816,j 0] (.bool false)]
def zqV:zJ:=[.m 6739 [.flt .f64 4710765210229538816] (.tup [.flt .f64 4710765210229538816,j 0]) (.o 178 [.flt .f64 4712266410284285952] (.tup [.flt .f64 4712266410284285952,j 0]))
 (.l)]
def k67:List (Nat×zJ):=[(245,zq7),(247,zqV)]
def t2:Tr zJ:=(.n 130 (zqm++zrL++zsd) (.n 71 (zzm++zwd++zwD) (.n 49 (zxu++zwj++zwu) (.n 46 (zxA++zxb) (.n 28 zzo .l .l) .l) (.n 69 (zv1++zxp) .l .l)) (.n 74 (zyn++zzM) (.n 73 zyC .l .l) (.n 86 (zxo++zy0) .l .l))) (.n 206 zrQ (.n 155 (zsf++zs1) (.n 149 (ztf++zra) (.n 148 (zq5++zqn++zrs++zsb++zqE++zrq++zrg++zrU) .l .l) .l) (.n 196 zst .l .l)) (.n 245 (zsh++zq7) (.n 222 zrX .l .l) (.n 247 zqV .l .l))))
def T2:List (Tr zJ):=t2::T1
def zxG:zJ:=[.o 36466 [v92,v92] (v92)]
def ztq:zJ:=[.m 40038 [v8,v17] (v93) (.m 39511 [v9,v27] (zm6) (.m 38985 [v9,v19] (v93) (.o 38459 [v9,v8] (zcr))
 (.o 38986 [v8,v19] (zcr)))
 (.m 39556 [zmz,v31] (zAn) (.o 39555 [v16,v31] (zAN))
 (.o 40037 [v9,v17] (zc7))))
 (.m 46370 [zv7,v69] (v98) (.m 40263 [zuM,v31] (zDf) (.o 40262 [zi6,v31] (zBl))
 (.o 40577 [ztU,v14] (zuP)))
 (.m 61447 [zt3,zhY] (.agg [j 1,zy8,j 1,zwL]) (.o 47943 [zmU,v17] (zGM))
 (.o 64035 [zvJ,zhY] (.agg [j 1,zzE,j 1,zwL]))))]
def k68:List (Nat×zJ):=[(50,zxG),(101,ztq)]
def zs4:zJ:=[.m 40039 [v21,v17] (v97) (.m 38459 [v9,v25] (v99) (.m 26622 [v9,v35] (zAL) (.o 7341 [v24,v35] (zCb))
 (.o 38458 [v10,v8] (v92)))
 (.m 38462 [v19,v8] (v84) (.o 38460 [v8,v8] (v79))
 (.o 38723 [v8,v21] (zBE))))
 (.m 42140 [v10,v41] (v92) (.m 40260 [v36,v31] (zDt) (.o 40041 [v28,v17] (v95))
 (.o 40262 [zt0,v31] (zAw)))
 (.m 42299 [v74,v8] (zt1) (.o 42142 [v8,v41] (zc7))
 (.o 46401 [v35,v21] (ztN)))),
 .o 38458 [v22,v8] (v99)]
def k69:List (Nat×zJ):=[(101,zs4)]
def zte:zJ:=[.m 38984 [v10,v19] (v92) (.m 38721 [v10,v21] (v92) (.o 38462 [v11,v8] (zot))
 (.o 38723 [v25,v21] (zic)))
 (.m 39512 [v25,v27] (zpl) (.o 38986 [v8,v11] (zic))
 (.o 39516 [v27,v27] (v79))),
 .o 38721 [v22,v21] (zpl)]
def ztn:zJ:=[.m 2154 [v18] (v17) (.m 2150 [v5] (v19) (.m 2148 [v1] (v8) (.o 2147 [v0] (v9))
 (.l))
 (.o 2151 [v29] (v28)))
 (.m 15521 [v12] (v11) (.o 15007 [v23] (v22))
 (.o 16035 [.str [45,53]] (v7)))]
def k70:List (Nat×zJ):=[(101,zte),(110,ztn)]
def zrN:zJ:=[.m 6518 [.str [51,49,52,49,53,57,50,54,53,51,53,56,57,55,57,51,50,51,56,52,54,50,54,52,51,51,56,51,50,55,57,53,48,50,56,56,52,49,57,55,49,54,57,51,57,57,51,55,53,49,48]] (zMs) (.m 2149 [v6] (v21) (.o 2146 [v2] (v10))
 (.o 2152 [.str [54]] (v27)))
 (.m 15572 [zwY] (v74) (.o 15011 [ztM] (v72))
 (.l))]
def zs9:zJ:=[.m 41249 [zNL] (.fsl true 1 2 [v1,v0]) (.m 28005 [zLu] (.fsl true 1 3 [v0,v2,v4]) (.o 6710 [zAd] (.fsl true 1 3 [v2,v0,v3]))
 (.l))
 (.m 55533 [zOY] (.fsl true 1 2 [v5,v6]) (.o 48389 [zPj] (.fsl true 1 2 [v0,v1]))
 (.l))]
def zrF:zJ:=[.m 44486 [.vsl true 2 [v5,v18]] (j 0) (.m 43433 [zCn] (j 0) (.o 42905 [znh] (j 0))
 (.l))
 (.m 56805 [.vsl true 2 [v12,v5]] (j 0) (.o 55765 [.vsl true 2 [v23,v1]] (j 0))
 (.l))]
def k71:List (Nat×zJ):=[(110,zrN),(123,zs9),(161,zrF)]
def zrp:zJ:=[.m 42642 [.vsl true 2 [v0,v0]] (j 0) (.m 30590 [.vsl true 2 [v23,v23]] (j 0) (.m 18786 [.vsl true 2 [v29,ztM]] (j 0) (.o 5873 [zCv] (j 0))
 (.l))
 (.m 42641 [zCj] (j 0) (.o 42379 [zCh] (j 0))
 (.l)))
 (.m 43170 [.vsl true 2 [v6,v6]] (j 0) (.m 43169 [.vsl true 2 [v1,v6]] (j 0) (.o 42906 [.vsl true 2 [v1,v1]] (j 0))
 (.l))
 (.o 59923 [zDm] (j 0)))]
def zsD:zJ:=[.o 26326 [j 1,j 3] (.tup [.fsl false 1 3 [j 0,j 2,j 1],j 0])]
def zs2:zJ:=[.m 9013 [zuP] (.tup [zuT,j 0]) (.o 5361 [v91] (.tup [v12,j 0]))
 (.l)]
def zth:zJ:=[.m 38580 [v81,v82] (zC5) (.o 37518 [v92,v87] (.tup [.agg [v2,v5],j 0]))
 (.o 38875 [zc7,zcr] (zGk))]
def k72:List (Nat×zJ):=[(161,zrp),(180,zsD),(208,zs2),(214,zth)]
def zto:zJ:=[.m 36730 [v79,v79] (.tup [zxt,j 0]) (.m 29027 [zBl,zDf] (zI8) (.o 389 [zAN,zAn] (zGT))
 (.o 29494 [zAw,zDt] (zKP)))
 (.m 37786 [v83,v83] (.tup [.agg [v29,v29],j 0]) (.o 36994 [v78,v78] (.tup [.agg [v26,v26],j 0]))
 (.l))]
def zss:zJ:=[.o 1844 [j 3] (j 0)]
def zr5:zJ:=[.m 10849 [zlc,zKS] (zyW) (.o 3138 [zyG,zmJ] (zyW))
 (.o 25702 [zzI,zOo] (zyW))]
def zqw:zJ:=[.m 40917 [zNG,.fn (.f 71) [] []] (v85) (.m 22010 [zNz,.fn (.f 71) [] []] (v78) (.o 17253 [zPc,.fn (.f 71) [] []] (v78))
 (.o 31477 [zO7,.fn (.f 71) [] []] (zc7)))
 (.m 53609 [zNn,.fn (.f 71) [] []] (v81) (.o 45317 [zNM,.fn (.f 71) [] []] (v80))
 (.l))]
def k73:List (Nat×zJ):=[(214,zto),(215,zss),(223,zr5),(233,zqw)]
def zsV:zJ:=[.m 22163 [.vsl true 2 [j 4,.nils,j 1,.nils,j 4,.nils,j 1,.nils],.fn (.f 71) [] []] (v87) (.m 3103 [zOJ,.fn (.f 71) [] []] (v87) (.o 737 [.vsl true 2 [j 1,.nils,j 1,.nils,j 1,.nils,j 1,.nils],.fn (.f 71) [] []] (v79))
 (.l))
 (.m 64224 [zPg,.fn (.f 71) [] []] (v79) (.o 49717 [zNa,.fn (.f 71) [] []] (v89))
 (.l))]
def zsI:zJ:=[.m 40917 [zNG,.fn (.f 71) [] []] (v85) (.m 22010 [zNz,.fn (.f 71) [] []] (v78) (.m 17253 [zPc,.fn (.f 71) [] []] (v87) (.o 3103 [zOJ,.fn (.f 71) [] []] (v87))
 (.l))
 (.o 31477 [zO7,.fn (.f 71) [] []] (zcr)))
 (.m 53609 [zNn,.fn (.f 71) [] []] (v82) (.m 49717 [zNa,.fn (.f 71) [] []] (v89) (.o 45317 [zNM,.fn (.f 71) [] []] (v80))
 (.l))
 (.o 64224 [zPg,.fn (.f 71) [] []] (v79)))]
def zsN:zJ:=[.m 1891 [j 50] (zaj) (.o 1844 [j 3] (v31))
 (.l)]
def k74:List (Nat×zJ):=[(233,zsV),(234,zsI),(236,zsN)]
def zqP:zJ:=[.o 1888 [j 47] (zhY)]
def zsY:zJ:=[.m 28694 [v8] (v9) (.o 28693 [v9] (v9))
 (.o 63062 [v40] (zi6))]
def zr6:zJ:=[.m 22882 [zAX,zAX,v79,v92] (.fsl false 4 3 [j 1,.nils,j 1,.nils,j 2,.nils,j 1,.nils,j 3,.nils,j 1,.nils]) (.m 17414 [zOQ,zwA,v79,v91] (.fsl false 4 3 [j 0,.nils,j 1,.nils,j (-2),.nils,j 1,.nils,j (-4),.nils,j 1,.nils]) (.o 6694 [zwA,zOz,v79,v78] (.fsl false 4 3 [j 1,.nils,j 1,.nils,j 0,.nils,j 1,.nils,j 1,.nils,j 1,.nils]))
 (.l))
 (.m 50957 [zwA,zwA,v79,v92] (.fsl false 4 3 [j 1,.nils,j 1,.nils,j 2,.nils,j 1,.nils,j 5,.nils,j 1,.nils]) (.o 46012 [zKN,zPL,v79,v78] (.fsl false 4 3 [j 0,.nils,j 1,.nils,j 0,.nils,j 1,.nils,j 0,.nils,j 1,.nils]))
 (.l))]
def zs7:zJ:=[.m 35366 [v84,j 24] (zE0) (.o 29317 [v84,j 1] (v84))
 (.o 35629 [v84,j 25] (zxn))]
def zts:zJ:=[.m 36497 [.flt .f64 4712266410284285952,j (-25)] (.flt .f64 4599676419600023552) (.o 30697 [.flt .f64 4710765210229538816,j 1] (.flt .f64 4715268809856909312))
 (.l)]
def k75:List (Nat×zJ):=[(236,zqP),(237,zsY),(240,zr6),(241,zs7),(243,zts)]
def t3:Tr zJ:=(.n 215 zss (.n 161 (zrF++zrp) (.n 110 (ztn++zrN) (.n 101 (ztq++zs4++zte) (.n 50 zxG .l .l) .l) (.n 123 zs9 .l .l)) (.n 208 zs2 (.n 180 zsD .l .l) (.n 214 (zth++zto) .l .l))) (.n 237 zsY (.n 234 zsI (.n 233 (zqw++zsV) (.n 223 zr5 .l .l) .l) (.n 236 (zsN++zqP) .l .l)) (.n 241 zs7 (.n 240 zr6 .l .l) (.n 243 zts .l .l))))
def T3:List (Tr zJ):=t3::T2
def zze:zJ:=[.m 32078 [v79,v93] (v93) (.m 13076 [v79,v99] (v99) (.m 11941 [.agg [j 1,v45,j 1,.nils],zc7] (zGM) (.m 4036 [v84,zc7] (v93) (.o 4035 [v79,zc7] (zc7))
 (.l))
 (.o 13075 [v92,v99] (v92)))
 (.m 13081 [v77,v99] (v84) (.o 13077 [v78,v99] (v79))
 (.o 17179 [zua,zcr] (zt1))))
 (.m 40903 [v99,v80] (zot) (.m 32452 [zCw,zxn] (ztN) (.o 32079 [v84,v93] (zcr))
 (.o 40118 [zot,v92] (v92)))
 (.m 56542 [zGP,zAL] (zCb) (.o 55731 [v92,zic] (v92))
 (.o 59383 [zot,zic] (v79))))]
def k76:List (Nat×zJ):=[(49,zze)]
def zyE:zJ:=[.m 20636 [zic,zcr] (zpl) (.m 13339 [v79,zcr] (zcr) (.o 13338 [v92,zcr] (v92))
 (.l))
 (.m 55732 [v79,zic] (zic) (.o 40377 [v99,v79] (v99))
 (.l))]
def zzu:zJ:=[.m 15007 [v23] (v85) (.m 2149 [v6] (v80) (.m 2148 [v1] (v84) (.o 2147 [v0] (v79))
 (.l))
 (.m 2154 [v18] (v82) (.o 2150 [v5] (v87))
 (.l)))
 (.m 47135 [zuI] (zm6) (.m 27639 [zuT] (zuP) (.o 15521 [v12] (v91))
 (.l))
 (.m 54535 [zCq] (zFp) (.o 48191 [znG] (zc7))
 (.l)))]
def k77:List (Nat×zJ):=[(49,zyE),(62,zzu)]
def zvZ:zJ:=[.m 15011 [ztM] (v88) (.m 2151 [v29] (v83) (.o 2146 [v2] (v92))
 (.o 2152 [.str [54]] (v89)))
 (.m 45551 [zCN] (zCw) (.o 15572 [zwY] (zua))
 (.o 46079 [zvn] (v93)))]
def zw4:zJ:=[.m 5365 [v82] (zc7) (.m 5361 [v87] (v93) (.o 5359 [v78] (v99))
 (.l))
 (.m 13037 [zxn] (zAL) (.o 9009 [zot] (zic))
 (.l)),
 .o 5359 [v84] (zcr)]
def zwb:zJ:=[.m 57350 [zFp,v94] (v98) (.o 54707 [zm6,v92] (zm6))
 (.o 62003 [zc7,v92] (zc7))]
def k78:List (Nat×zJ):=[(62,zvZ),(73,zw4),(74,zwb)]
def zyr:zJ:=[.m 42759 [v93,v94] (v92) (.m 14127 [v92,zot] (zot) (.m 5876 [v79,v96] (v97) (.o 5013 [zt1,zNF] (zcr))
 (.o 8472 [zcr,v98] (zc7)))
 (.m 40114 [v99,v92] (v99) (.o 16986 [v99,zcr] (v92))
 (.l)))
 (.m 55205 [v92,zpl] (zpl) (.m 47411 [v93,v92] (v93) (.o 43764 [zic,v92] (zic))
 (.l))
 (.m 64865 [ztN,zPD] (zBE) (.o 62269 [v98,v79] (v95))
 (.l)))]
def zw3:zJ:=[.m 48191 [znG] (j 0) (.m 47135 [zuI] (j 0) (.o 27639 [zuT] (j 0))
 (.l))
 (.o 54535 [zCq] (j 0))]
def k79:List (Nat×zJ):=[(74,zyr),(86,zw3)]
def zzO:zJ:=[.m 46079 [zvn] (j 0) (.o 45551 [zCN] (j 0))
 (.l)]
def zty:zJ:=[.m 2922 [zCn,.vptr [znW]] (j 0) (.m 2130 [zCj,.vptr [zpU]] (j 0) (.o 1868 [zCh,.vptr [zpU]] (j 0))
 (.o 2394 [znh,.vptr [znW]] (j 0)))
 (.m 30883 [zCv,.vptr [zou]] (j 0) (.o 19412 [zDm,.vptr [zou]] (j 0))
 (.l))]
def zrm:zJ:=[.o 28181 [j 15,j (-6)] (.tup [zuT,j 0])]
def zq8:zJ:=[.o 29578 [v92,j 2] (.tup [zxt,j 0])]
def zsk:zJ:=[.m 39522 [zmJ,zzI] (zDs) (.m 32380 [zlc,zzI] (zzI) (.o 10617 [zlc,zlc] (zlc))
 (.o 32612 [zlc,zyG] (zyG)))
 (.m 60989 [zBX,zBX] (.agg [j (-2),.nils,j 1,.nils,j 4,.nils,j 1,.nils]) (.o 39754 [zmJ,zyG] (zOo))
 (.l))]
def k80:List (Nat×zJ):=[(86,zzO),(126,zty),(185,zrm),(218,zq8),(221,zsk)]
def zsw:zJ:=[.o 61517 [zmJ,zmJ] (zKS)]
def zrw:zJ:=[.m 54375 [zlc,zDs] (zPH) (.o 17654 [zyW,zyW] (zPK))
 (.l)]
def zsM:zJ:=[.m 35247 [.vsl false 2 [zNL,zOY]] (.tup [.fsl false 1 2 [ztO,zvG],j 0]) (.o 23670 [.vsl true 2 [zLu,zAd]] (.tup [.fsl false 1 2 [zvt,zuD],j 0]))
 (.o 50231 [.vsl true 1 [zPj]] (.tup [.fsl false 1 1 [znh],j 0]))]
def zrB:zJ:=[.o 1730 [.vsl false 2 [zAX,zKN]] (.tup [.fsl false 1 1 [zPL],.fsl false 1 1 [j 0]])]
def zqu:zJ:=[.m 1866 [j 25] (zxn) (.o 1865 [j 24] (zE0))
 (.l)]
def zsq:zJ:=[.m 36497 [.flt .f64 4712266410284285952,j (-25)] (.flt .f64 4599676419600023552) (.o 30697 [.flt .f64 4710765210229538816,j 1] (.flt .f64 4715268809856909312))
 (.l)]
def zqy:zJ:=[.o 5359 [v84] (.tup [v79,.bool false])]
def k81:List (Nat×zJ):=[(221,zsw),(224,zrw),(226,zsM),(227,zrB),(228,zqu),(230,zsq),(235,zqy)]
def t4:Tr zJ:=(.n 218 zq8 (.n 74 (zwb++zyr) (.n 62 (zzu++zvZ) (.n 49 (zze++zyE) .l .l) (.n 73 zw4 .l .l)) (.n 126 zty (.n 86 (zw3++zzO) .l .l) (.n 185 zrm .l .l))) (.n 227 zrB (.n 224 zrw (.n 221 (zsk++zsw) .l .l) (.n 226 zsM .l .l)) (.n 230 zsq (.n 228 zqu .l .l) (.n 235 zqy .l .l))))
def T4:List (Tr zJ):=t4::T3
def zv3:zJ:=[.m 47411 [v93,v92] (v93) (.m 24747 [zt1,zJn] (zcr) (.m 8209 [zcr,v97] (zc7) (.o 5087 [v79,v95] (v97))
 (.l))
 (.m 43022 [v93,v93] (v92) (.o 25656 [ztN,zG4] (zBE))
 (.l)))
 (.m 62003 [zc7,v92] (zc7) (.m 57613 [zFp,v93] (v98) (.o 54707 [zm6,v92] (zm6))
 (.l))
 (.o 62006 [v98,v85] (v95)))]
def zzc:zJ:=[.m 38571 [v79,v82] (zc7) (.m 37520 [v84,v87] (zcr) (.o 37519 [v79,v87] (v93))
 (.l))
 (.o 38572 [v84,v82] (v93))]
def zzn:zJ:=[.m 56805 [.vsl true 2 [v12,v5]] (.fsl true 4 2 [j (-3),.nils,j 1,.nils,j 4,.nils,j 1,.nils]) (.o 55765 [.vsl true 2 [v23,v1]] (.fsl true 4 2 [j (-1),.nils,j 1,.nils,j 2,.nils,j 1,.nils]))
 (.l)]
def k82:List (Nat×zJ):=[(50,zv3),(70,zzc),(88,zzn)]
def zzK:zJ:=[.m 42905 [znh] (.fsl true 4 2 [j 1,.nils,j 1,.nils,j 2,.nils,j 1,.nils]) (.m 42379 [zCh] (.fsl true 4 2 [j 1,.nils,j 1,.nils,j 0,.nils,j 1,.nils]) (.o 5873 [zCv] (.fsl true 4 3 [j 2,.nils,j 1,.nils,j 4,.nils,j 1,.nils,j 6,.nils,j 1,.nils]))
 (.o 42641 [zCj] (.fsl true 4 2 [j 0,.nils,j 1,.nils,j 1,.nils,j 1,.nils])))
 (.m 44486 [.vsl true 2 [v5,v18]] (.fsl true 4 2 [j 4,.nils,j 1,.nils,j 8,.nils,j 1,.nils]) (.o 43433 [zCn] (.fsl true 4 2 [j 3,.nils,j 1,.nils,j 4,.nils,j 1,.nils]))
 (.o 59923 [zDm] (.fsl true 4 3 [j 1,.nils,j 1,.nils,j 2,.nils,j 1,.nils,j 3,.nils,j 1,.nils])))]
def zre:zJ:=[.m 24621 [znW,.fn (.f 126) [] [.vptr [znW]]] (j 0) (.o 9239 [zpU,.fn (.f 126) [] [.vptr [zpU]]] (j 0))
 (.o 57030 [zou,.fn (.f 126) [] [.vptr [zou]]] (j 0))]
def zqC:zJ:=[.o 27639 [zuT] (.tup [v12,j 0])]
def zrR:zJ:=[.m 44484 [zAz] (j 0) (.m 43431 [.agg [v6,v5]] (j 0) (.o 42903 [zvz] (j 0))
 (.l))
 (.m 56803 [zxU] (j 0) (.o 55763 [zpY] (j 0))
 (.l))]
def k83:List (Nat×zJ):=[(88,zzK),(127,zre),(186,zqC),(210,zrR)]
def zrj:zJ:=[.m 42904 [.agg [v1,v1]] (j 0) (.m 42640 [zxt] (j 0) (.o 30588 [.agg [v23,v23]] (j 0))
 (.l))
 (.m 43168 [.agg [v6,v6]] (j 0) (.o 43167 [.agg [v1,v6]] (j 0))
 (.l))]
def zro:zJ:=[.m 42904 [.agg [v1,v1]] (zmJ) (.m 42640 [zxt] (zlc) (.o 30588 [.agg [v23,v23]] (zzI))
 (.l))
 (.m 55763 [zpY] (zBX) (.o 43168 [.agg [v6,v6]] (zyG))
 (.l))]
def zsv:zJ:=[.m 48386 [zBX] (.agg [j 0,.nils,j 1,.nils,j 4,.nils,j 1,.nils]) (.o 41246 [zlc] (zlc))
 (.o 48388 [zmJ] (zKS))]
def zri:zJ:=[.o 29843 [v84,j 3] (zI8)]
def ztv:zJ:=[.m 7154 [znG,j 3] (j 0) (.o 6624 [zuI,j 5] (j 0))
 (.l)]
def k84:List (Nat×zJ):=[(210,zrj),(212,zro),(213,zsv),(216,zri),(217,ztv)]
def zry:zJ:=[.m 13498 [zCq,j 3] (j 0) (.o 4779 [zvn,j 2] (j 0))
 (.l)]
def ztg:zJ:=[.m 1889 [j (-25)] (zAL) (.o 1841 [j (-1)] (zcr))
 (.l)]
def zrV:zJ:=[.m 35092 [zO4,zOR,v79,v80] (.fsl false 4 3 [j 0,.nils,j 1,.nils,j (-3),.nils,j 2,.nils,j 1,.nils,j 1,.nils]) (.m 32172 [zFt,zFt,v99,v92] (.fsl false 4 3 [j 1,.nils,j 1,.nils,j (-1),.nils,j 2,.nils,j 0,.nils,j 1,.nils]) (.o 24528 [zOR,zAd,v79,zcr] (.fsl false 4 3 [j 1,.nils,j 1,.nils,j 0,.nils,j 1,.nils,j (-1),.nils,j 3,.nils]))
 (.l))
 (.m 64653 [zN6,zN6,zic,v92] (.fsl false 4 3 [j 0,.nils,j 1,.nils,j 1,.nils,j 1,.nils,j (-2),.nils,j 3,.nils]) (.o 35463 [zNj,zNj,v99,v92] (.fsl false 4 3 [j 0,.nils,j 1,.nils,j 1,.nils,j 1,.nils,j 2,.nils,j 1,.nils]))
 (.l))]
def zsl:zJ:=[.o 2218 [zc7,j 50] (zA2)]
def k85:List (Nat×zJ):=[(217,zry),(228,ztg),(240,zrV),(244,zsl)]
def t5:Tr zJ:=(.n 212 zro (.n 127 zre (.n 70 zzc (.n 50 zv3 .l .l) (.n 88 (zzn++zzK) .l .l)) (.n 210 (zrR++zrj) (.n 186 zqC .l .l) .l)) (.n 228 ztg (.n 216 zri (.n 213 zsv .l .l) (.n 217 (ztv++zry) .l .l)) (.n 244 zsl (.n 240 zrV .l .l) .l)))
def T5:List (Tr zJ):=t5::T4
def zzW:zJ:=[.m 49750 [zpU] (j 0) (.o 32020 [zou] (j 0))
 (.o 65132 [znW] (j 0))]
def zr4:zJ:=[.o 55763 [zpY] (.tup [.agg [v2,v5],j 0])]
def zsp:zJ:=[.m 62761 [zvz,.agg [v6,v5]] (.tup [j (-1),j 0]) (.o 58850 [zvz,.agg [v1,v6]] (.tup [j 0,j 24]))
 (.l)]
def zru:zJ:=[.o 26632 [v1,j 3] (zI8)]
def zsA:zJ:=[.m 37625 [zvz,zAz,.fn (.f 70) [] []] (zGk) (.o 14332 [zpY,zxU,.fn (.f 49) [] []] (zC5))
 (.l)]
def zqs:zJ:=[.m 48608 [zm6,j 5] (zNh) (.o 40523 [v93,j 2] (.tup [.agg [v2,v2],j 0]))
 (.l)]
def zqD:zJ:=[.m 53088 [zMh] (j 0) (.o 33922 [zwV] (j 0))
 (.l)]
def zqF:zJ:=[.m 49750 [zpU] (.fsl false 1 2 [.vsl true 2 [j 0,.nils,j 1,.nils,j 1,.nils,j 1,.nils],.vsl true 2 [j 1,.nils,j 1,.nils,j 0,.nils,j 1,.nils]]) (.o 32020 [zou] (.fsl false 1 2 [zAX,zKN]))
 (.o 65132 [znW] (.fsl false 1 2 [.vsl true 2 [j 1,.nils,j 1,.nils,j 2,.nils,j 1,.nils],.vsl true 2 [j 3,.nils,j 1,.nils,j 4,.nils,j 1,.nils]]))]
def k86:List (Nat×zJ):=[(84,zzW),(190,zr4),(191,zsp),(192,zru),(211,zsA),(218,zqs),(220,zqD),(225,zqF)]
def zsx:zJ:=[.m 49312 [.vsl false 2 [zwA,zOQ]] (.tup [.fsl true 1 2 [.vsl false 3 [j 1,.nils,j 1,.nils,j 0,.nils,j 1,.nils,j 1,.nils,j 1,.nils],zOz],.fsl false 1 2 [j 0,j 1]]) (.o 17358 [.vsl false 2 [zFt,zO4]] (.tup [.fsl true 1 2 [zLu,zAd],.fsl false 1 2 [j 0,j 1]]))
 (.l)]
def zqR:zJ:=[.m 20333 [ztN] (j 11184811) (.o 12846 [zt1] (j 8388608))
 (.l)]
def ztp:zJ:=[.o 24078 [.flt .f32 1051372203] (zCb)]
def zs8:zJ:=[.o 55378 [zc7,j 3] (v16)]
def k87:List (Nat×zJ):=[(227,zsx),(229,zqR),(232,ztp),(239,zs8)]
def t6:Tr zJ:=(.n 220 zqD (.n 192 zru (.n 190 zr4 (.n 84 zzW .l .l) (.n 191 zsp .l .l)) (.n 218 zqs (.n 211 zsA .l .l) .l)) (.n 229 zqR (.n 227 zsx (.n 225 zqF .l .l) .l) (.n 239 zs8 (.n 232 ztp .l .l) .l)))
def T6:List (Tr zJ):=t6::T5
def zs5:zJ:=[.o 12095 [zvz,zAz] (zGk)]
def zqI:zJ:=[.o 6624 [zuI,j 5] (zNh)]
def zsm:zJ:=[.o 4779 [zvn,j 2] (.tup [.agg [v2,v2,v0,v0],j 0])]
def zqN:zJ:=[.o 38252 [zwV,zMh] (zPK)]
def zqQ:zJ:=[.o 33922 [zwV] (zPH)]
def zq4:zJ:=[.o 33922 [zwV] (.tup [.agg [v29,v29],j 0])]
def zqX:zJ:=[.o 43341 [znW,zpU] (.tup [.vsl false 2 [ztO,zvG],j 0])]
def zqS:zJ:=[.o 24413 [znW,.vsl true 2 [v29,ztM]] (.tup [znh,j 0])]
def zql:zJ:=[.m 45551 [zCN] (.tup [.flt .f32 1051372203,j 0]) (.o 15572 [zwY] (.tup [.flt .f32 1266679808,j 0]))
 (.l)]
def zqT:zJ:=[.o 24078 [.flt .f32 1051372203] (.tup [zNx,j 0])]
def zqZ:zJ:=[.o 32020 [zou] (.tup [.vsl false 2 [zvt,zuD],j 0])]
def zq1:zJ:=[.o 32020 [zou] (.tup [j 1,j 0])]
def zti:zJ:=[.o 14332 [zpY,zxU,.fn (.f 49) [] []] (zC5)]
def zq0:zJ:=[.m 55381 [v98,j 3] (zKP) (.o 55378 [zc7,j 3] (zGT))
 (.l)]
def k88:List (Nat×zJ):=[(189,zs5),(193,zqI),(195,zsm),(197,zqN),(198,zqQ),(199,zq4),(200,zqX),(201,zqS),(202,zql),(203,zqT),(204,zqZ),(205,zq1),(209,zti),(218,zq0)]
def t7:Tr zJ:=(.n 201 zqS (.n 197 zqN (.n 193 zqI (.n 189 zs5 .l .l) (.n 195 zsm .l .l)) (.n 199 zq4 (.n 198 zqQ .l .l) (.n 200 zqX .l .l))) (.n 205 zq1 (.n 203 zqT (.n 202 zql .l .l) (.n 204 zqZ .l .l)) (.n 218 zq0 (.n 209 zti .l .l) .l)))
def T7:List (Tr zJ):=t7::T6
def zrH:zJ:=[.o 54323 [zpY,zxU] (zC5)]
def ztl:zJ:=[.o 7154 [znG,j 3] (zGT)]
def zrS:zJ:=[.o 13498 [zCq,j 3] (zKP)]
def k89:List (Nat×zJ):=[(188,zrH),(193,ztl),(194,zrS)]
def t8:Tr zJ:=(.n 193 ztl (.n 188 zrH .l .l) (.n 194 zrS .l .l))
def T8:List (Tr zJ):=t8::T7
def zsB:zJ:=[.o 7 [] (.bool true)]
def k90:List (Nat×zJ):=[(179,zsB)]
def t9:Tr zJ:=(.n 179 zsB .l .l)
def T9:List (Tr zJ):=t9::T8
end VK1
end VE
