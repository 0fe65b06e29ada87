import Derived.Test.YtahpdocnbjccfaaGreatDoorTav
import Derived.Test.YtahpdocnbjccfaaGreatDoorTau
set_option linter.all false
set_option maxRecDepth 100000
namespace VE
namespace VK1
def T0:List (Tr Ent):=[]
theorem zIa {Λ:Link} (_hΛ:zav Λ) (_hp:Λ.prog=prog) (_hl:Λ.lib=lib):AllT Λ T0:=AllT.nil
abbrev j (n:Int):AV:= .int .i64 n
abbrev u (n:Nat):AV:= .int .u64 n
def w (l:List Nat):AV:= .vsl true l.length (l.map u)
def v0:AV:= .str [48]
def v1:AV:= .str [51,47,50]
def v2:AV:= .str [49,47,50]
def v3:AV:= .str [49,47,50,52]
def v4:AV:= .str [49]
def v5:AV:= .str [49,47,49,48]
def v6:AV:= .vsl true 2 [j 0,j 1]
def v7:AV:= .vsl true 2 [j 2,j 3]
def v8:AV:= .vsl true 3 [j 0,j 0,j 0]
def v9:AV:= .vsl true 4 [j 0,j 0,j 0,j 0]
def v10:AV:= .agg [j 3,.nils,j 2,.nils]
def v11:AV:= .agg [j 1,.nils,j 1,.nils]
def v12:AV:= .agg [j 0,.nils,j 1,.nils]
def v13:AV:= .agg [j 1,.nils,j 2,.nils]
def v14:AV:= .agg [j 1,.nils,j 24,.nils]
def v15:AV:= .agg [j 5,.nils,j 4,.nils]
def v16:AV:= .vsl true 2 [j 3,j 2]
def v17:AV:= .vsl true 2 [j 1,j 2]
def v18:AV:= .vsl true 2 [j 1,j 0]
def v19:AV:= .vsl true 2 [j 2,j 4]
def v20:AV:= .str [49,48]
def v21:AV:= .str [53]
def v22:AV:= .agg [j 1,.nils]
def v23:AV:= .agg [j 3,.nils]
def v24:AV:= .agg [j 6,.nils]
def v25:AV:= .agg [j 2,.nils]
def v26:AV:= .agg [j 0,.nils]
def v27:AV:= .agg [j 4,.nils]
def v28:AV:= .agg [j 5,.nils]
def v29:AV:= .agg [j 14,.nils]
def v30:AV:= .agg [j 10,.nils]
def v31:AV:= .agg [j 8,.nils]
def v32:AV:= .agg [j (-1),.nils]
def v33:AV:= .agg [j 12,.nils]
def v34:AV:= .agg [j 9,.nils]
def v35:AV:= .agg [j 16,.nils]
def v36:AV:= .agg [j 96,.nils]
def v37:AV:= .agg [j 100,.nils]
def v38:AV:= .agg [j 24,.nils]
def v39:AV:= .agg [j (-2),.nils]
def v40:AV:= .agg [j 3,.nils,j 1,.nils]
def v41:AV:= .vsl true 5 [j 1,j 1,j 1,j 1,j 1]
def v42:AV:= .agg [j 2,.nils,j 1,.nils]
def v43:AV:= .agg [j 5,.nils,j 1,.nils]
def v44:AV:= .agg [j 10,.nils,j 1,.nils]
def v45:AV:= .agg [j 8,.nils,j 1,.nils]
def v46:AV:= .agg [j 12,.nils,j 1,.nils]
def v47:AV:= .agg [j (-1),.nils,j 1,.nils]
def v48:AV:= .agg [j 0,j 0,j 1,.nils,j 2,.nils,j 1,.nils,j 2,.nils]
def v49:AV:= .tup [j 1,j 0]
def v50:AV:= .tup [j 0,j 0]
def v51:AV:= .agg [j 0,j 0,j 0,.nils,j 1,.nils,j 0,.nils,j 1,.nils]
def v52:AV:= .agg [j 0,j 0,j 0,.nils,j 1,.nils,j 1,.nils,j 2,.nils]
def v53:AV:= .agg [j 1,j 0,j 1,.nils,j 2,.nils,j 0,.nils,j 1,.nils]
def v54:AV:= .tup [j 1,j 1]
def v55:AV:= .tup [j 0,j 1]
def v56:AV:= .agg [j 1,j 1,j 0,.nils,j 1,.nils,j 0,.nils,j 1,.nils]
def v57:AV:= .agg [j 1,.nils,j 2,.nils,j 1,.nils,j 1,.nils]
def v58:AV:= .agg [j 0,.nils,j 1,.nils,j 1,.nils,j 2,.nils]
def v59:AV:= .agg [j 1,.nils,j 24,.nils,j 0,.nils,j 1,.nils]
def v60:AV:= .vsl false 2 [j 1,.nils,j 1,.nils,j 1,.nils,j 1,.nils]
def v61:AV:= .vsl false 4 [j 1,.nils,j 2,.nils,j 0,.nils,j 1,.nils,j 0,.nils,j 1,.nils,j 0,.nils,j 1,.nils]
def v62:AV:= .vsl true 3 [j 0,j 1,j 0]
def v63:AV:= .agg [j 0,.nils,j 1,.nils,j 0,.nils,j 1,.nils]
def v64:AV:= .agg [j 1,.nils,j 3,.nils]
def v65:AV:= .agg [j 1,.nils,j 4,.nils]
def v66:AV:= .agg [j 3,.nils,j 4,.nils]
def v67:AV:= .agg [j 7,.nils,j 2,.nils]
def v68:AV:= .agg [j 9,.nils,j 4,.nils]
def v69:AV:= .agg [j 1,.nils,j 8,.nils]
def v70:AV:= .agg [j 1,.nils,j 10,.nils]
def v71:AV:= .agg [j 1,.nils,j 12,.nils]
def v72:AV:= .vsl false 1 [j 1,.nils,j 1,.nils]
def v73:AV:= .vsl true 1 [j 1,.nils,j 1,.nils]
def v74:AV:= .vsl true 2 [j 1,.nils,j 1,.nils,j 1,.nils,j 1,.nils]
def v75:AV:= .agg [j 6,.nils,j 1,.nils]
def v76:AV:= .agg [j 4,.nils,j 1,.nils]
def v77:AV:= .agg [j 14,.nils,j 1,.nils]
def v78:AV:= .agg [j 1,.nils,j 1,.nils,j 0,.nils,j 1,.nils]
def v79:AV:= .agg [j 1,.nils,j 1,.nils,j 0,.nils,j 1,.nils,j 0,.nils,j 1,.nils,j 0,.nils,j 1,.nils]
def v80:AV:= .agg [j 3,.nils,j 2,.nils,j 0,.nils,j 1,.nils]
def v81:AV:= .agg [j 1,.nils,j 2,.nils,j 0,.nils,j 1,.nils]
def v82:AV:= .agg [j 1,.nils,j 2,.nils,j 1,.nils,j 2,.nils]
def v83:AV:= .agg [j 0,.nils,j 1,.nils,j 1,.nils,j 1,.nils]
def v84:AV:= .agg [j 1,.nils,j 10,.nils,j 0,.nils,j 1,.nils]
def v85:AV:= .vsl false 1 [j 3,.nils,j 1,.nils]
def v86:AV:= .agg [j 1,.nils,j 1,.nils,j 1,.nils,j 1,.nils]
def v87:AV:= .agg [v0,v0]
def v88:AV:= .agg [v1,v0]
def v89:AV:= .agg [v2,v2]
def v90:AV:= .agg [v0,v4]
def v91:AV:= .agg [v4,v0]
def v92:AV:= .vsl true 2 [v6,v7]
def v93:AV:= .vsl true 2 [v4,v4]
def v94:AV:= .vsl true 4 [v2,v0,v0,v0]
def v95:AV:= .agg [v0,v0,v0]
def v96:AV:= .agg [v0,v0,v20]
def v97:AV:= .agg [v5,v0,v0]
def v98:AV:= .tup [v26,v26]
def v99:AV:= .tup [v22,v26]
def zzf:AV:= .tup [v25,v26]
def zpD:AV:= .tup [v26,v22]
def zx7:AV:= .vsl true 2 [v19,v19]
def zzu:AV:= .vsl true 2 [v18,v16]
def zCV:AV:= .vsl true 2 [v17,v17]
def zpQ:AV:= .vsl true 3 [v62,v62,v8]
def zy1:AV:= .tup [v1,j 0]
def zDz:AV:= .vsl true 1 [.str [51]]
def zC2:AV:= .vsl true 1 [v0,v0]
def zje:AV:= .agg [v92,v21,v4,v2,v0,v0,v2,v0]
def zxU:AV:= .vsl true 1 [v92,v21,v4,v2,v0,v0,v2,v0]
def zr4:AV:= .vsl true 1 [v93]
def zA6:Ent:=[.m 40535 [v0,v0] (v87) (.m 17893 [v1,v0] (v88) (.m 17891 [v2,v0] (.agg [v2,v0]) (.o 9861 [v3,v0] (.agg [v3,v0]))
 (.l))
 (.m 24930 [v2,v2] (v89) (.o 18154 [v2,v4] (.agg [v2,v4]))
 (.l)))
 (.m 47574 [v0,v2] (.agg [v0,v2]) (.m 40798 [v0,v4] (v90) (.o 40536 [v4,v0] (v91))
 (.l))
 (.o 56238 [v5,v0] (.agg [v5,v0])))]
def zBY:Ent:=[.o 7 [] (v92)]
def zCa:Ent:=[.m 51556 [v93,v93] (.bool true) (.o 30452 [v94,v94] (.bool true))
 (.l)]
def zA5:Ent:=[.m 28694 [.bool false,j 12] (j 0) (.m 26327 [.bool false,j 3] (j 0) (.o 26064 [.bool false,j 2] (j 0))
 (.o 26853 [.bool false,j 5] (j 0)))
 (.m 33691 [.bool false,j 31] (j 0) (.o 28957 [.bool false,j 13] (j 0))
 (.l))]
def zB6:Ent:=[.m 34670 [v8] (j 0) (.m 9480 [.vsl true 6 [j 0,j 0,j 0,j 0,j 0,j 0]] (j 0) (.o 3683 [.vsl false 1 [j 0]] (j 0))
 (.o 27379 [.vsl true 2 [j 0,j 0]] (j 0)))
 (.m 51832 [v9] (j 0) (.o 44227 [.vsl true 5 [j 0,j 0,j 0,j 0,j 0]] (j 0))
 (.l)),
 .o 44227 [.vsl false 5 [j 0,j 0,j 0,j 0,j 0]] (j 0)]
def zBR:Ent:=[.m 25801 [j 2,j 1] (j 3) (.m 25800 [j 1,j 1] (j 2) (.o 25799 [j 0,j 1] (j 1))
 (.l))
 (.m 25803 [j 4,j 1] (j 5) (.o 25802 [j 3,j 1] (j 4))
 (.l))]
def zBf:Ent:=[.m 51329 [j 0,j 1,.vptr [v92]] (j 2) (.m 51067 [j 1,j 0,.vptr [v92]] (j 1) (.o 51066 [j 0,j 0,.vptr [v92]] (j 0))
 (.l))
 (.o 51330 [j 1,j 1,.vptr [v92]] (j 3))]
def zA4:Ent:=[.m 9008 [v10] (v1) (.m 5358 [v11] (v4) (.o 5357 [v12] (v0))
 (.o 9006 [v13] (v2)))
 (.m 23741 [v14] (v3) (.o 16306 [v15] (.str [53,47,52]))
 (.l))]
def zCu:Ent:=[.m 51329 [j 0,j 1,.vptr [v92]] (j 2) (.m 51067 [j 1,j 0,.vptr [v92]] (j 1) (.o 51066 [j 0,j 0,.vptr [v92]] (j 0))
 (.l))
 (.o 51330 [j 1,j 1,.vptr [v92]] (j 3))]
def zBd:Ent:=[.m 51329 [j 0,j 1,.vptr [v92]] (j 4) (.m 51067 [j 1,j 0,.vptr [v92]] (j 1) (.o 51066 [j 0,j 0,.vptr [v92]] (j 0))
 (.l))
 (.o 51330 [j 1,j 1,.vptr [v92]] (j 9))]
def zB0:Ent:=[.m 27519 [v16,v16] (.bool true) (.m 26991 [v17,v17] (.bool true) (.o 19169 [v18,v18] (.bool true))
 (.l))
 (.o 35077 [v19,v19] (.bool true))]
def zBx:Ent:=[.m 48449 [v95] (.bool true) (.o 46691 [v96] (.bool false))
 (.o 64152 [v97] (.bool true))]
def zCe:Ent:=[.o 45199 [zje] (j 4)]
def zBX:Ent:=[.o 26588 [j 0,j 4] (j 4)]
def zBm:Ent:=[.m 26852 [j 1,.vptr [j 1000]] (.bool false) (.o 26851 [j 0,.vptr [j 1000]] (.bool false))
 (.l)]
def k0:List (Nat×Ent):=[(14,zA6),(15,zBY),(29,zCa),(31,zA5),(33,zB6),(38,zBR),(44,zBf),(46,zA4),(47,zCu),(48,zBd),(59,zB0),(68,zBx),(80,zCe),(81,zBX),(94,zBm)]
theorem zHx:za1 prog lib T0 k0=true:=by decide+kernel
def zA2:Ent:=[.m 26853 [j 2,.vptr [j 1000]] (.bool false) (.m 26852 [j 1,.vptr [j 100]] (.bool false) (.o 26851 [j 0,.vptr [j 100]] (.bool false))
 (.l))
 (.m 26855 [j 4,.vptr [j 1000]] (.bool false) (.o 26854 [j 3,.vptr [j 1000]] (.bool false))
 (.l))]
def zCn:Ent:=[.m 1844 [j 3] (.fn (.f 133) [] [.vptr [j 3]]) (.o 1843 [j 2] (.fn (.f 133) [] [.vptr [j 2]]))
 (.l)]
def zuz:Ent:=[.m 38722 [v22,v23] (v23) (.m 38201 [v24,v22] (v24) (.m 38196 [v22,v22] (v22) (.m 37934 [v25,v26] (v26) (.m 37933 [v22,v26] (v26) (.o 37932 [v26,v26] (v26))
 (.l))
 (.o 38195 [v26,v22] (v26)))
 (.m 38199 [v27,v22] (v27) (.m 38198 [v23,v22] (v23) (.o 38197 [v25,v22] (v25))
 (.l))
 (.o 38200 [v28,v22] (v28))))
 (.m 38460 [v25,v25] (v27) (.m 38458 [v26,v25] (v26) (.m 38209 [v29,v22] (v29) (.o 38205 [v30,v22] (v30))
 (.l))
 (.o 38459 [v22,v25] (v25)))
 (.m 38474 [.agg [j (-9),.nils],v25] (.agg [j (-18),.nils]) (.o 38462 [v27,v25] (v31))
 (.o 38721 [v26,v23] (v26)))))
 (.m 40036 [v32,v31] (.agg [j (-8),.nils]) (.m 38987 [v23,v27] (v33) (.m 38985 [v22,v27] (v27) (.m 38984 [v26,v27] (v26) (.o 38724 [v23,v23] (v34))
 (.l))
 (.o 38986 [v25,v27] (v31)))
 (.m 39247 [v26,v28] (v26) (.m 38991 [.agg [j 7,.nils],v27] (.agg [j 28,.nils]) (.o 38988 [v27,v27] (v35))
 (.l))
 (.o 39248 [v22,v28] (v28))))
 (.m 41096 [v31,v33] (v36) (.m 40572 [v30,v30] (v37) (.m 40563 [v22,v30] (v30) (.o 40562 [v26,v30] (v26))
 (.l))
 (.o 41089 [v22,v33] (v33)))
 (.m 64232 [v26,v37] (v26) (.o 44245 [v22,v38] (v38))
 (.o 64233 [v22,v37] (v37))))),
 .m 38458 [v32,v25] (v39) (.o 38195 [v32,v22] (v32))
 (.l)]
def zx9:Ent:=[.m 38196 [v22,v22] (v11) (.o 38195 [v26,v22] (v12))
 (.o 38198 [v23,v22] (v40))]
def zu2:Ent:=[.m 40564 [v25,v30] (j (-1)) (.o 38196 [v22,v22] (j 0))
 (.o 40567 [v28,v30] (j (-1)))]
def zwz:Ent:=[.m 38458 [v26,v25] (v25) (.m 37934 [v25,v32] (v22) (.m 37933 [v22,v26] (v22) (.o 37932 [v26,v26] (v26))
 (.l))
 (.o 38195 [v26,v22] (v22)))
 (.m 41100 [v33,v33] (v38) (.o 38986 [v25,v27] (v24))
 (.o 46902 [.agg [j 28,.nils],.agg [j (-18),.nils]] (v30)))]
def k1:List (Nat×Ent):=[(94,zA2),(96,zCn),(100,zuz),(101,zx9),(118,zu2),(119,zwz)]
theorem zHA:za1 prog lib T0 k1=true:=by decide+kernel
def zxG:Ent:=[.m 38468 [v30,v39] (v31) (.m 38197 [v25,v22] (v23) (.m 37935 [v23,v26] (v23) (.o 37933 [v22,v32] (v26))
 (.o 38196 [v22,v22] (v25)))
 (.m 38461 [v23,v39] (v22) (.o 38460 [v25,v25] (v27))
 (.l)))
 (.m 39247 [v26,v28] (v28) (.m 38984 [v26,v27] (v27) (.o 38721 [v26,v23] (v23))
 (.l))
 (.m 41626 [v33,.agg [j (-8),.nils]] (v27) (.o 40562 [v26,v30] (v30))
 (.l))),
 .o 38468 [v30,v25] (v33)]
def zu0:Ent:=[.m 26590 [.bool false,j 4] (j 0) (.m 26064 [.bool false,j 2] (j 0) (.o 25801 [.bool false,j 1] (j 0))
 (.l))
 (.m 28694 [.bool false,j 12] (j 0) (.o 26853 [.bool false,j 5] (j 0))
 (.l))]
def zuL:Ent:=[.m 51832 [v9] (j 0) (.o 27379 [.vsl true 2 [j 0,j 0]] (j 0))
 (.l)]
def zuE:Ent:=[.m 2149 [.str [51]] (.bool true) (.m 2147 [v4] (.bool true) (.o 2146 [v0] (.bool true))
 (.o 2148 [.str [50]] (.bool true)))
 (.m 2151 [v21] (.bool true) (.o 2150 [.str [52]] (.bool true))
 (.o 14754 [v20] (.bool true)))]
def zwC:Ent:=[.m 26063 [j 1,j 2] (j 1) (.o 26062 [j 0,j 2] (j 0))
 (.o 26064 [j 2,j 2] (j 0)),
 .o 26062 [j (-1),j 2] (j 1)]
def zx6:Ent:=[.m 28694 [v25] (.bool false) (.m 28693 [v22] (.bool false) (.o 28692 [v26] (.bool false))
 (.l))
 (.m 28716 [v38] (.bool false) (.o 28695 [v23] (.bool false))
 (.l))]
def zwL:Ent:=[.m 38468 [v30,v25] (.tup [v28,v26]) (.m 38458 [v26,v25] (v98) (.m 38198 [v23,v22] (.tup [v23,v26]) (.m 38196 [v22,v22] (v99) (.o 38195 [v26,v22] (v98))
 (.o 38197 [v25,v22] (zzf)))
 (.m 38204 [v34,v22] (.tup [v34,v26]) (.o 38199 [v27,v22] (.tup [v27,v26]))
 (.l)))
 (.m 38462 [v27,v25] (zzf) (.m 38460 [v25,v25] (v99) (.o 38459 [v22,v25] (zpD))
 (.l))
 (.m 38466 [v31,v25] (.tup [v27,v26]) (.o 38464 [v24,v25] (.tup [v23,v26]))
 (.l))))
 (.m 38987 [v23,v27] (.tup [v26,v23]) (.m 38984 [v26,v27] (v98) (.m 38725 [v27,v23] (.tup [v22,v22]) (.o 38472 [v29,v25] (.tup [.agg [j 7,.nils],v26]))
 (.l))
 (.m 38986 [v25,v27] (.tup [v26,v25]) (.o 38985 [v22,v27] (zpD))
 (.l)))
 (.m 38993 [v34,v27] (.tup [v25,v22]) (.m 38990 [v24,v27] (.tup [v22,v25]) (.o 38988 [v27,v27] (v99))
 (.l))
 (.m 40046 [v30,v31] (.tup [v22,v25]) (.o 38998 [v29,v27] (.tup [v23,v25]))
 (.l))))]
def k2:List (Nat×Ent):=[(119,zxG),(124,zu0),(125,zuL),(129,zuE),(134,zwC),(151,zx6),(164,zwL)]
theorem zHc:za1 prog lib T0 k2=true:=by decide+kernel
def zuF:Ent:=[.m 40037 [v22,v31] (zpD) (.m 38722 [v22,v23] (zpD) (.m 38207 [v33,v22] (.tup [v33,v26]) (.m 38205 [v30,v22] (.tup [v30,v26]) (.o 38203 [v31,v22] (.tup [v31,v26]))
 (.l))
 (.m 38461 [v23,v25] (.tup [v22,v22]) (.o 38219 [v38,v22] (.tup [v38,v26]))
 (.l)))
 (.m 39252 [v28,v28] (v99) (.m 39080 [v36,v27] (.tup [v38,v26]) (.o 38724 [v23,v23] (v99))
 (.l))
 (.m 39518 [v31,v24] (.tup [v22,v25]) (.o 39257 [v30,v28] (zzf))
 (.l))))
 (.m 41089 [v22,v33] (zpD) (.m 40060 [v38,v31] (.tup [v23,v26]) (.m 40052 [v35,v31] (zzf) (.o 40042 [v24,v31] (.tup [v26,v24]))
 (.l))
 (.m 40567 [v28,v30] (.tup [v26,v28]) (.o 40563 [v22,v30] (zpD))
 (.l)))
 (.m 44245 [v22,v38] (zpD) (.m 44244 [v26,v38] (v98) (.o 42164 [v38,v35] (.tup [v22,v31]))
 (.l))
 (.m 63184 [v27,v36] (.tup [v26,v27]) (.o 44268 [v38,v38] (v99))
 (.l))))]
def k3:List (Nat×Ent):=[(164,zuF)]
theorem zG4:za1 prog lib T0 k3=true:=by decide+kernel
def t1:Tr Ent:=(.n 81 zBX (.n 44 zBf (.n 31 zA5 (.n 15 zBY (.n 14 zA6 .l .l) (.n 29 zCa .l .l)) (.n 38 zBR (.n 33 zB6 .l .l) .l)) (.n 59 zB0 (.n 47 zCu (.n 46 zA4 .l .l) (.n 48 zBd .l .l)) (.n 80 zCe (.n 68 zBx .l .l) .l))) (.n 124 zu0 (.n 101 zx9 (.n 96 zCn (.n 94 (zBm++zA2) .l .l) (.n 100 zuz .l .l)) (.n 119 (zwz++zxG) (.n 118 zu2 .l .l) .l)) (.n 134 zwC (.n 129 zuE (.n 125 zuL .l .l) .l) (.n 164 (zwL++zuF) (.n 151 zx6 .l .l) .l))))
def T1:List (Tr Ent):=t1::T0
theorem zGa {Λ:Link} (hΛ:zav Λ) (hp:Λ.prog=prog) (hl:Λ.lib=lib):AllT Λ T1:=by
 have h:=zIa hΛ hp hl
 have c0:=za4 hΛ hp hl h zHx
 have c1:=za4 hΛ hp hl h zHA
 have c2:=za4 hΛ hp hl h zHc
 have c3:=za4 hΛ hp hl h zG4
 exact AllT.cons (aN (c0 13 rfl) (aN (c0 6 rfl) (aN (c0 3 rfl) (aN (c0 1 rfl) (aN (c0 0 rfl) aL aL) (aN (c0 2 rfl) aL aL)) (aN (c0 5 rfl) (aN (c0 4 rfl) aL aL) aL)) (aN (c0 10 rfl) (aN (c0 8 rfl) (aN (c0 7 rfl) aL aL) (aN (c0 9 rfl) aL aL)) (aN (c0 12 rfl) (aN (c0 11 rfl) aL aL) aL))) (aN (c2 1 rfl) (aN (c1 3 rfl) (aN (c1 1 rfl) (aN (.app (c0 14 rfl) (c1 0 rfl)) aL aL) (aN (c1 2 rfl) aL aL)) (aN (.app (c1 5 rfl) (c2 0 rfl)) (aN (c1 4 rfl) aL aL) aL)) (aN (c2 4 rfl) (aN (c2 3 rfl) (aN (c2 2 rfl) aL aL) aL) (aN (.app (c2 6 rfl) (c3 0 rfl)) (aN (c2 5 rfl) aL aL) aL)))) h
def zBV:Ent:=[.m 47931 [zx7,zx7] (.bool true) (.o 9899 [zzu,zzu] (.bool true))
 (.l),
 .o 9899 [zCV,zCV] (.bool true)]
def zBc:Ent:=[.o 7 [] (zje)]
def zBG:Ent:=[.o 58093 [.vsl false 1 [v94],.vsl true 1 [v94]] (.bool true)]
def zCp:Ent:=[.m 43068 [j 1,j 1,j 2147483646] (j 0) (.m 25938 [j 2,j 1,j 16] (j 0) (.o 11651 [j 1,j 0,j 1000] (j 0))
 (.l))
 (.m 55041 [j 1,j (-999999999),j 999999999] (j 0) (.o 55040 [j 0,j (-999999999),j 999999999] (j 0))
 (.l))]
def zCf:Ent:=[.m 25649 [j 0,v41,.fn (.f 38) [] []] (j 5) (.o 12396 [j 0,.vsl false 1 [j 4],.fn (.f 81) [] []] (j 4))
 (.l)]
def zCo:Ent:=[.m 36730 [v11,v11] (v11) (.m 36468 [v42,v12] (v12) (.m 36467 [v11,v12] (v12) (.o 36466 [v12,v12] (v12))
 (.l))
 (.o 36729 [v12,v11] (v12)))
 (.m 37256 [v11,v40] (v40) (.m 37255 [v12,v40] (v12) (.o 36992 [v12,v42] (v12))
 (.l))
 (.o 37781 [v12,v43] (v12)))]
def zBp:Ent:=[.m 31055 [v97,v43] (.bool true) (.o 15352 [v95,v43] (.bool true))
 (.l)]
def zBT:Ent:=[.m 39101 [v43,v44] (j (-1)) (.o 39098 [v42,v44] (j (-1)))
 (.l)]
def zBC:Ent:=[.m 36730 [v11,v11] (v42) (.m 36469 [v40,v12] (v40) (.m 36467 [v11,v12] (v11) (.o 36466 [v12,v12] (v12))
 (.l))
 (.o 36729 [v12,v11] (v11)))
 (.m 37002 [v44,.agg [j (-2),.nils,j 1,.nils]] (v45) (.o 36731 [v42,v11] (v40))
 (.o 37255 [v12,v40] (v40))),
 .m 37002 [v44,v42] (v46) (.o 36467 [v11,v47] (v12))
 (.l)]
def zBH:Ent:=[.o 4689 [zxU,.fn (.f 80) [] []] (.fsl false 1 1 [j 4])]
def zCg:Ent:=[.m 2150 [.str [52]] (j 0) (.m 2147 [v4] (j 0) (.o 2146 [v0] (j 0))
 (.o 2149 [.str [51]] (j 0)))
 (.m 14754 [v20] (j 0) (.o 2151 [v21] (j 0))
 (.l))]
def zBn:Ent:=[.m 5504 [v92,j 1,j 2] (j 1) (.m 2119 [v92,j 2,j 1] (j 2) (.m 1856 [v92,j 1,j 1] (j 3) (.o 1593 [v92,j (-1),j 1] (j 3))
 (.l))
 (.o 5241 [v92,j (-1),j 2] (j 1)))
 (.m 63729 [v92,j 1,j 0] (j 1) (.m 63466 [v92,j (-1),j 0] (j 1) (.o 5767 [v92,j 2,j 2] (j 0))
 (.l))
 (.o 63992 [v92,j 2,j 0] (j 0))),
 .m 63466 [v92,j 0,j 0] (j 0) (.m 5241 [v92,j 0,j 2] (j 0) (.o 1593 [v92,j 0,j 1] (j 2))
 (.l))
 (.m 63992 [v92,j 2,j (-1)] (j 2) (.o 63729 [v92,j 1,j (-1)] (j 3))
 (.l)),
 .o 63466 [v92,j (-1),j (-1)] (j 3),
 .o 63466 [v92,j 0,j (-1)] (j 2)]
def zxx:Ent:=[.m 62435 [v48,j 1,j 2] (v49) (.o 62172 [v48,j 0,j 2] (v50))
 (.l)]
def k4:List (Nat×Ent):=[(21,zBV),(23,zBc),(28,zBG),(34,zCp),(37,zCf),(49,zCo),(63,zBp),(71,zBT),(74,zBC),(79,zBH),(86,zCg),(97,zBn),(105,zxx)]
theorem zGg:za1 prog lib T1 k4=true:=by decide+kernel
def zuV:Ent:=[.m 60093 [v51,j 1,j 2] (v49) (.m 51383 [v52,j 0,j 2] (v50) (.m 5625 [v53,j 2,j 2] (v54) (.m 5362 [v53,j 1,j 2] (v50) (.o 5099 [v53,j 0,j 2] (v49))
 (.l))
 (.o 5888 [v53,j 3,j 2] (v55)))
 (.m 52172 [v52,j 3,j 2] (v54) (.m 51909 [v52,j 2,j 2] (v55) (.o 51646 [v52,j 1,j 2] (v49))
 (.l))
 (.o 59830 [v51,j 0,j 2] (v50))))
 (.m 60620 [v56,j 2,j 2] (v49) (.m 60357 [v56,j 1,j 2] (v55) (.m 60356 [v51,j 2,j 2] (v55) (.o 60094 [v56,j 0,j 2] (v54))
 (.l))
 (.o 60619 [v51,j 3,j 2] (v54)))
 (.m 62698 [v48,j 2,j 2] (v55) (.o 60883 [v56,j 3,j 2] (v50))
 (.o 62961 [v48,j 3,j 2] (v54))))]
def zua:Ent:=[.m 9006 [v13] (.bool false) (.m 5358 [v11] (.bool false) (.o 5357 [v12] (.bool false))
 (.l))
 (.m 23741 [v14] (.bool false) (.o 9008 [v10] (.bool false))
 (.l))]
def zv6:Ent:=[.m 44894 [v57] (.agg [v2,v4]) (.o 14255 [v58] (.agg [v0,v2]))
 (.o 52488 [v59] (.agg [v3,v0]))]
def zub:Ent:=[.m 41248 [v60] (.fsl true 1 2 [v4,v4]) (.o 19556 [v61] (.fsl true 1 4 [v2,v0,v0,v0]))
 (.l)]
def zvd:Ent:=[.m 38990 [v24,v27] (v25) (.m 38724 [v23,v23] (v23) (.m 38461 [v23,v25] (v22) (.m 38459 [v22,v25] (v22) (.o 38458 [v26,v25] (v25))
 (.o 38460 [v25,v25] (v25)))
 (.m 38722 [v22,v23] (v22) (.o 38462 [v27,v25] (v25))
 (.l)))
 (.m 38986 [v25,v27] (v25) (.m 38985 [v22,v27] (v22) (.o 38984 [v26,v27] (v27))
 (.l))
 (.m 38988 [v27,v27] (v27) (.o 38987 [v23,v27] (v22))
 (.l))))
 (.m 40567 [v28,v30] (v28) (.m 40042 [v24,v31] (v25) (.m 38998 [v29,v27] (v25) (.o 38993 [v34,v27] (v22))
 (.o 40037 [v22,v31] (v22)))
 (.m 40563 [v22,v30] (v22) (.o 40046 [v30,v31] (v25))
 (.l)))
 (.m 44244 [v26,v38] (v38) (.m 42164 [v38,v35] (v31) (.o 41089 [v22,v33] (v22))
 (.l))
 (.m 63184 [v27,v36] (v27) (.o 44245 [v22,v38] (v22))
 (.l))))]
def zwD:Ent:=[.m 53443 [v19,.fn (.f 94) [] [.vptr [j 1000]]] (j (-1)) (.m 53180 [v7,.fn (.f 94) [] [.vptr [j 1000]]] (j (-1)) (.o 52652 [v6,.fn (.f 94) [] [.vptr [j 1000]]] (j (-1)))
 (.l))
 (.m 59943 [v62,.fn (.f 94) [] [.vptr [j 100]]] (j (-1)) (.o 59680 [v8,.fn (.f 94) [] [.vptr [j 100]]] (j (-1)))
 (.l))]
def zxN:Ent:=[.m 9006 [v13] (v26) (.o 5357 [v12] (v26))
 (.l)]
def k5:List (Nat×Ent):=[(105,zuV),(107,zua),(114,zv6),(123,zub),(130,zvd),(132,zwD),(149,zxN)]
theorem zGC:za1 prog lib T1 k5=true:=by decide+kernel
def zxI:Ent:=[.m 9008 [v10] (v22) (.o 5358 [v11] (v22))
 (.l)]
def zwi:Ent:=[.m 52923 [v30,j 2] (v37) (.o 52660 [v30,j 1] (v30))
 (.l)]
def k6:List (Nat×Ent):=[(149,zxI),(155,zwi)]
theorem zGX:za1 prog lib T1 k6=true:=by decide+kernel
def t2:Tr Ent:=(.n 86 zCg (.n 49 zCo (.n 28 zBG (.n 23 zBc (.n 21 zBV .l .l) .l) (.n 37 zCf (.n 34 zCp .l .l) .l)) (.n 74 zBC (.n 71 zBT (.n 63 zBp .l .l) .l) (.n 79 zBH .l .l))) (.n 123 zub (.n 107 zua (.n 105 (zxx++zuV) (.n 97 zBn .l .l) .l) (.n 114 zv6 .l .l)) (.n 149 (zxN++zxI) (.n 132 zwD (.n 130 zvd .l .l) .l) (.n 155 zwi .l .l))))
def T2:List (Tr Ent):=t2::T1
theorem zHP {Λ:Link} (hΛ:zav Λ) (hp:Λ.prog=prog) (hl:Λ.lib=lib):AllT Λ T2:=by
 have h:=zGa hΛ hp hl
 have c4:=za4 hΛ hp hl h zGg
 have c5:=za4 hΛ hp hl h zGC
 have c6:=za4 hΛ hp hl h zGX
 exact AllT.cons (aN (c4 10 rfl) (aN (c4 5 rfl) (aN (c4 2 rfl) (aN (c4 1 rfl) (aN (c4 0 rfl) aL aL) aL) (aN (c4 4 rfl) (aN (c4 3 rfl) aL aL) aL)) (aN (c4 8 rfl) (aN (c4 7 rfl) (aN (c4 6 rfl) aL aL) aL) (aN (c4 9 rfl) aL aL))) (aN (c5 3 rfl) (aN (c5 1 rfl) (aN (.app (c4 12 rfl) (c5 0 rfl)) (aN (c4 11 rfl) aL aL) aL) (aN (c5 2 rfl) aL aL)) (aN (.app (c5 6 rfl) (c6 0 rfl)) (aN (c5 5 rfl) (aN (c5 4 rfl) aL aL) aL) (aN (c6 1 rfl) aL aL)))) h
def zBu:Ent:=[.o 1842 [j 1] (j 0)]
def zB5:Ent:=[.m 45155 [j 0,j 1,.vptr [zpQ],.vptr [v92],.vptr [j 1]] (j 2) (.m 44893 [j 1,j 0,.vptr [zpQ],.vptr [v92],.vptr [j 1]] (j 4) (.o 44892 [j 0,j 0,.vptr [zpQ],.vptr [v92],.vptr [j 1]] (j 2))
 (.l))
 (.o 45156 [j 1,j 1,.vptr [zpQ],.vptr [v92],.vptr [j 1]] (j 4))]
def zB4:Ent:=[.m 36730 [v11,v11] (v12) (.m 36467 [v11,v12] (v11) (.o 36466 [v12,v12] (v12))
 (.l))
 (.o 37002 [v44,v42] (v45))]
def zB7:Ent:=[.m 1842 [j 1] (j 0) (.o 1841 [j 0] (j 0))
 (.l)]
def zBD:Ent:=[.m 45155 [j 0,j 1,.vptr [v92],.vptr [j 1],.vptr [j 0]] (j 1) (.m 44893 [j 1,j 0,.vptr [v92],.vptr [j 1],.vptr [j 0]] (j 1) (.o 44892 [j 0,j 0,.vptr [v92],.vptr [j 1],.vptr [j 0]] (j 1))
 (.l))
 (.o 45156 [j 1,j 1,.vptr [v92],.vptr [j 1],.vptr [j 0]] (j 1))]
def zBs:Ent:=[.m 42377 [v91] (j 0) (.o 42376 [v87] (j 0))
 (.o 42639 [v90] (j 0))]
def zB2:Ent:=[.m 9008 [v10] (zy1) (.o 9006 [v13] (.tup [v2,j 0]))
 (.l)]
def zBj:Ent:=[.m 45155 [j 0,j 1,.vptr [v92],.vptr [j 1],.vptr [j 0]] (j 3) (.m 44893 [j 1,j 0,.vptr [v92],.vptr [j 1],.vptr [j 0]] (j 0) (.o 44892 [j 0,j 0,.vptr [v92],.vptr [j 1],.vptr [j 0]] (j 1))
 (.l))
 (.o 45156 [j 1,j 1,.vptr [v92],.vptr [j 1],.vptr [j 0]] (j 2))]
def zB1:Ent:=[.m 65476 [v63,v11] (v63) (.o 1007 [v63,v43] (v63))
 (.l)]
def zBN:Ent:=[.o 29001 [zDz,.fn (.f 86) [] []] (.fsl false 1 1 [j 0])]
def zBI:Ent:=[.m 53443 [v19,.fn (.f 94) [] [.vptr [j 1000]]] (.bool false) (.m 53180 [v7,.fn (.f 94) [] [.vptr [j 1000]]] (.bool false) (.o 52652 [v6,.fn (.f 94) [] [.vptr [j 1000]]] (.bool false))
 (.l))
 (.m 59943 [v62,.fn (.f 94) [] [.vptr [j 100]]] (.bool false) (.o 59680 [v8,.fn (.f 94) [] [.vptr [j 100]]] (.bool false))
 (.l))]
def zya:Ent:=[.m 38990 [v24,v27] (v10) (.m 38724 [v23,v23] (v11) (.m 38461 [v23,v25] (v10) (.m 38459 [v22,v25] (v13) (.o 38458 [v26,v25] (v12))
 (.o 38460 [v25,v25] (v11)))
 (.m 38722 [v22,v23] (v64) (.o 38462 [v27,v25] (v42))
 (.l)))
 (.m 38986 [v25,v27] (v13) (.m 38985 [v22,v27] (v65) (.o 38984 [v26,v27] (v12))
 (.l))
 (.m 38988 [v27,v27] (v11) (.o 38987 [v23,v27] (v66))
 (.l))))
 (.m 40567 [v28,v30] (v13) (.m 40042 [v24,v31] (v66) (.m 38998 [v29,v27] (v67) (.o 38993 [v34,v27] (v68))
 (.o 40037 [v22,v31] (v69)))
 (.m 40563 [v22,v30] (v70) (.o 40046 [v30,v31] (v15))
 (.l)))
 (.m 44244 [v26,v38] (v12) (.m 42164 [v38,v35] (v10) (.o 41089 [v22,v33] (v71))
 (.l))
 (.m 63184 [v27,v36] (v14) (.o 44245 [v22,v38] (v14))
 (.l))))]
def zvs:Ent:=[.m 47498 [v12,.vsl false 4 [j 0,.nils,j 1,.nils,j 0,.nils,j 1,.nils,j 1,.nils,j 1,.nils,j 0,.nils,j 1,.nils],.fn (.f 74) [] []] (v11) (.o 20032 [v12,.vsl false 4 [j 3,.nils,j 1,.nils,j 0,.nils,j 1,.nils,j 0,.nils,j 1,.nils,j 0,.nils,j 1,.nils],.fn (.f 74) [] []] (v40))
 (.l)]
def zwh:Ent:=[.o 2147 [v4] (v22)]
def k7:List (Nat×Ent):=[(36,zBu),(41,zB5),(50,zB4),(51,zB7),(52,zBD),(53,zBs),(57,zB2),(58,zBj),(75,zB1),(85,zBN),(95,zBI),(101,zya),(106,zvs),(110,zwh)]
theorem zHK:za1 prog lib T2 k7=true:=by decide+kernel
def zt3:Ent:=[.m 2150 [.str [52]] (v27) (.m 2148 [.str [50]] (v25) (.o 2146 [v0] (v26))
 (.o 2149 [.str [51]] (v23)))
 (.m 14754 [v20] (v30) (.o 2151 [v21] (v28))
 (.l))]
def zvS:Ent:=[.o 25238 [v63,v63] (v63)]
def zvy:Ent:=[.m 44894 [v57] (.bool false) (.o 14255 [v58] (.bool false))
 (.o 52488 [v59] (.bool false))]
def zuj:Ent:=[.m 36994 [v72,v73] (v11) (.o 11145 [v74,v74] (v42))
 (.l)]
def zv0:Ent:=[.m 44566 [v61,.fn (.f 107) [] []] (j (-1)) (.o 737 [v60,.fn (.f 107) [] []] (j (-1)))
 (.l)]
def zuq:Ent:=[.o 42642 [v93] (j 0)]
def k8:List (Nat×Ent):=[(110,zt3),(112,zvS),(113,zvy),(131,zuj),(160,zv0),(161,zuq)]
theorem zGM:za1 prog lib T2 k8=true:=by decide+kernel
def t3:Tr Ent:=(.n 85 zBN (.n 52 zBD (.n 50 zB4 (.n 41 zB5 (.n 36 zBu .l .l) .l) (.n 51 zB7 .l .l)) (.n 58 zBj (.n 57 zB2 (.n 53 zBs .l .l) .l) (.n 75 zB1 .l .l))) (.n 112 zvS (.n 106 zvs (.n 101 zya (.n 95 zBI .l .l) .l) (.n 110 (zwh++zt3) .l .l)) (.n 160 zv0 (.n 131 zuj (.n 113 zvy .l .l) .l) (.n 161 zuq .l .l))))
def T3:List (Tr Ent):=t3::T2
theorem zHW {Λ:Link} (hΛ:zav Λ) (hp:Λ.prog=prog) (hl:Λ.lib=lib):AllT Λ T3:=by
 have h:=zHP hΛ hp hl
 have c7:=za4 hΛ hp hl h zHK
 have c8:=za4 hΛ hp hl h zGM
 exact AllT.cons (aN (c7 9 rfl) (aN (c7 4 rfl) (aN (c7 2 rfl) (aN (c7 1 rfl) (aN (c7 0 rfl) aL aL) aL) (aN (c7 3 rfl) aL aL)) (aN (c7 7 rfl) (aN (c7 6 rfl) (aN (c7 5 rfl) aL aL) aL) (aN (c7 8 rfl) aL aL))) (aN (c8 1 rfl) (aN (c7 12 rfl) (aN (c7 11 rfl) (aN (c7 10 rfl) aL aL) aL) (aN (.app (c7 13 rfl) (c8 0 rfl)) aL aL)) (aN (c8 4 rfl) (aN (c8 3 rfl) (aN (c8 2 rfl) aL aL) aL) (aN (c8 5 rfl) aL aL)))) h
def zBb:Ent:=[.m 57092 [v92,j 1000] (j 0) (.o 28943 [zpQ,j 100] (j 0))
 (.o 61531 [zx7,j 1000] (j 0))]
def zBy:Ent:=[.o 56899 [v41,.fn (.f 36) [] []] (.fsl false 1 5 [j 0,j 0,j 0,j 0,j 0])]
def zCj:Ent:=[.o 26853 [j 2,.fn (.f 58) [] [.vptr [v92],.vptr [j 1],.vptr [j 0]]] (zzu),
 .o 26853 [j 2,.fn (.f 41) [] [.vptr [zpQ],.vptr [v92],.vptr [j 1]]] (zx7)]
def zBv:Ent:=[.m 32083 [v75,v65] (v10) (.m 17515 [v10,v10] (v68) (.m 13339 [v11,v13] (v13) (.m 13338 [v12,v13] (v12) (.o 5093 [v70,v43] (v13))
 (.l))
 (.m 16987 [v13,v13] (v65) (.o 13342 [v76,v13] (v42))
 (.l)))
 (.m 22905 [v11,v14] (v14) (.m 22904 [v12,v14] (v12) (.o 22778 [v43,v70] (v13))
 (.l))
 (.o 32081 [v76,v65] (v11))))
 (.m 47411 [v65,v12] (v12) (.m 40378 [v13,v11] (v13) (.m 40115 [v13,v12] (v12) (.o 32091 [v77,v65] (v67))
 (.l))
 (.m 40904 [v13,v40] (v10) (.o 40641 [v13,v42] (v11))
 (.l)))
 (.m 48200 [v65,v40] (v66) (.m 47937 [v65,v42] (v13) (.o 47674 [v65,v11] (v65))
 (.l))
 (.o 55471 [v40,v64] (v11))))]
def zBg:Ent:=[.m 2151 [v21] (v43) (.m 2149 [.str [51]] (v40) (.m 2147 [v4] (v11) (.o 2146 [v0] (v12))
 (.l))
 (.o 2150 [.str [52]] (v76)))
 (.m 45023 [v2] (v13) (.m 17849 [v5] (v70) (.o 14754 [v20] (v44))
 (.l))
 (.o 45025 [v1] (v10)))]
def zBB:Ent:=[.m 44894 [v57] (.tup [.agg [v2,v4],j 0]) (.o 14255 [v58] (.tup [.agg [v0,v2],j 0]))
 (.o 52488 [v59] (.tup [.agg [v3,v0],j 0]))]
def zCb:Ent:=[.o 25239 [v78,v63] (v78)]
def zBr:Ent:=[.m 5365 [v45] (v69) (.m 5360 [v40] (v64) (.o 5359 [v42] (v13))
 (.o 5361 [v76] (v65)))
 (.m 5369 [v46] (v71) (.o 5367 [v44] (v70))
 (.l))]
def zBU:Ent:=[.m 32077 [v12,v65] (v65) (.m 13338 [v12,v13] (v13) (.m 13076 [v11,.agg [j (-1),.nils,j 2,.nils]] (v13) (.o 1265 [v69,.agg [j (-1),.nils,j 12,.nils]] (v14))
 (.l))
 (.m 24283 [v65,v13] (v66) (.o 16987 [v13,v13] (v11))
 (.l)))
 (.m 40117 [v10,v47] (v13) (.m 40115 [v13,v12] (v13) (.o 39677 [v67,.agg [j (-9),.nils,j 4,.nils]] (v15))
 (.l))
 (.o 43550 [v66,v66] (v10)))]
def zB8:Ent:=[.m 45023 [v2] (j 0) (.o 17849 [v5] (j 0))
 (.o 45025 [v1] (j 0))]
def zBP:Ent:=[.o 30369 [v72,.vptr [v73]] (v11)]
def k9:List (Nat×Ent):=[(32,zBb),(35,zBy),(40,zCj),(49,zBv),(62,zBg),(65,zBB),(72,zCb),(73,zBr),(74,zBU),(86,zB8),(91,zBP)]
theorem zG0:za1 prog lib T3 k9=true:=by decide+kernel
def zrB:Ent:=[.m 21813 [v56] (v79) (.o 21549 [v51] (v79))
 (.l)]
def zrH:Ent:=[.o 1866 [zC2,.fn (.f 53) [] []] (.fsl false 1 1 [j 0])]
def zrA:Ent:=[.m 44566 [v61,.fn (.f 107) [] []] (.bool false) (.o 737 [v60,.fn (.f 107) [] []] (.bool false))
 (.l)]
def zrE:Ent:=[.o 2131 [v93,.vptr [zr4]] (j 0)]
def k10:List (Nat×Ent):=[(104,zrB),(121,zrH),(122,zrA),(126,zrE)]
theorem zDi:za1 prog lib T3 k10=true:=by decide+kernel
def t4:Tr Ent:=(.n 73 zBr (.n 49 zBv (.n 35 zBy (.n 32 zBb .l .l) (.n 40 zCj .l .l)) (.n 65 zBB (.n 62 zBg .l .l) (.n 72 zCb .l .l))) (.n 104 zrB (.n 86 zB8 (.n 74 zBU .l .l) (.n 91 zBP .l .l)) (.n 122 zrA (.n 121 zrH .l .l) (.n 126 zrE .l .l))))
def T4:List (Tr Ent):=t4::T3
theorem zGF {Λ:Link} (hΛ:zav Λ) (hp:Λ.prog=prog) (hl:Λ.lib=lib):AllT Λ T4:=by
 have h:=zHW hΛ hp hl
 have c9:=za4 hΛ hp hl h zG0
 have c10:=za4 hΛ hp hl h zDi
 exact AllT.cons (aN (c9 7 rfl) (aN (c9 3 rfl) (aN (c9 1 rfl) (aN (c9 0 rfl) aL aL) (aN (c9 2 rfl) aL aL)) (aN (c9 5 rfl) (aN (c9 4 rfl) aL aL) (aN (c9 6 rfl) aL aL))) (aN (c10 0 rfl) (aN (c9 9 rfl) (aN (c9 8 rfl) aL aL) (aN (c9 10 rfl) aL aL)) (aN (c10 2 rfl) (aN (c10 1 rfl) aL aL) (aN (c10 3 rfl) aL aL)))) h
def zBe:Ent:=[.o 32481 [v92] (j 0)]
def zBa:Ent:=[.o 31824 [j 1,j 2,v41] (.tup [zCV,j 0])]
def zwc:Ent:=[.m 37836 [v67,v68] (v15) (.m 13339 [v11,v13] (v13) (.o 1528 [v69,v71] (v14))
 (.l))
 (.m 40380 [v10,v11] (v13) (.o 40115 [v13,v12] (v13))
 (.l))]
def zwx:Ent:=[.m 26771 [v89] (j 0) (.m 19734 [v88] (j 0) (.o 19732 [.agg [v2,v0]] (j 0))
 (.l))
 (.o 58079 [.agg [v5,v0]] (j 0))]
def zwv:Ent:=[.m 42376 [v87] (v63) (.m 19734 [v88] (v80) (.o 19732 [.agg [v2,v0]] (v81))
 (.o 26771 [v89] (v82)))
 (.m 42639 [v90] (v83) (.o 42377 [v91] (v78))
 (.o 58079 [.agg [v5,v0]] (v84)))]
def zxc:Ent:=[.o 44745 [v56,v92] (v40)]
def ztW:Ent:=[.m 25846 [v21,j 0] (j 0) (.m 25845 [.str [52],j 0] (j 0) (.o 25841 [v0,j 0] (j 0))
 (.l))
 (.m 38449 [v20,j 0] (j 0) (.o 26105 [v4,j 1] (j 0))
 (.l))]
def zwT:Ent:=[.o 13594 [v96,v43] (.bool true)]
def zvi:Ent:=[.m 37522 [v76,v76] (v11) (.m 36996 [v76,v42] (v42) (.m 36993 [v11,v42] (v13) (.o 36992 [v12,v42] (v12))
 (.l))
 (.o 37258 [v40,v40] (v11)))
 (.m 37532 [v77,v76] (v67) (.o 37524 [v75,v76] (v10))
 (.o 39101 [v43,v44] (v13)))]
def zxu:Ent:=[.m 33840 [v84,v43] (v81) (.m 3604 [v81,v11] (v81) (.o 3341 [v81,v12] (v63))
 (.o 10745 [v57,v11] (v57)))
 (.m 49226 [v83,v13] (v58) (.o 45627 [v58,v11] (v58))
 (.o 51652 [v78,v14] (v59)))]
def zxW:Ent:=[.o 42377 [zC2] (j 0)]
def zum:Ent:=[.m 41248 [v60] (.tup [v93,j 0]) (.o 19556 [v61] (.tup [v94,j 0]))
 (.l)]
def zuc:Ent:=[.m 42642 [v93] (.fsl true 4 2 [j 1,.nils,j 1,.nils,j 1,.nils,j 1,.nils]) (.o 3991 [zDz] (.fsl true 4 1 [j 3,.nils,j 1,.nils]))
 (.l)]
def zxd:Ent:=[.o 2579 [.vsl false 1 [v74],.vptr [v4]] (.fsl false 1 1 [v85])]
def zw2:Ent:=[.o 63847 [.vsl true 2 [v72,v72],.fn (.f 91) [] [.vptr [v73]]] (.fsl false 4 2 [j 1,.nils,j 1,.nils,j 1,.nils,j 1,.nils])]
def zq7:Ent:=[.m 61636 [v12,v61,.fn (.f 74) [] []] (v13) (.o 47668 [v12,.vsl false 4 [j 0,.nils,j 1,.nils,j 1,.nils,j 4,.nils,j 1,.nils,j 2,.nils,j 3,.nils,j 4,.nils],.fn (.f 74) [] []] (v10))
 (.l)]
def zrp:Ent:=[.m 12900 [v57,v81] (v86) (.m 9251 [v83,v81] (v57) (.o 5389 [v58,v63] (v58))
 (.l))
 (.o 36028 [v57,v63] (v57))]
def zrI:Ent:=[.o 3973 [zr4,.fn (.f 126) [] [.vptr [zr4]]] (j 0)]
def k11:List (Nat×Ent):=[(4,zBe),(5,zBa),(50,zwc),(53,zwx),(54,zwv),(56,zxc),(61,ztW),(63,zwT),(70,zvi),(75,zxu),(78,zxW),(83,zum),(88,zuc),(89,zxd),(92,zw2),(106,zq7),(112,zrp),(127,zrI)]
theorem zCw:za1 prog lib T4 k11=true:=by decide+kernel
def t5:Tr Ent:=(.n 75 zxu (.n 54 zwv (.n 50 zwc (.n 5 zBa (.n 4 zBe .l .l) .l) (.n 53 zwx .l .l)) (.n 63 zwT (.n 61 ztW (.n 56 zxc .l .l) .l) (.n 70 zvi .l .l))) (.n 92 zw2 (.n 88 zuc (.n 83 zum (.n 78 zxW .l .l) .l) (.n 89 zxd .l .l)) (.n 112 zrp (.n 106 zq7 .l .l) (.n 127 zrI .l .l))))
def T5:List (Tr Ent):=t5::T4
theorem zGA {Λ:Link} (hΛ:zav Λ) (hp:Λ.prog=prog) (hl:Λ.lib=lib):AllT Λ T5:=by
 have h:=zGF hΛ hp hl
 have c11:=za4 hΛ hp hl h zCw
 exact AllT.cons (aN (c11 9 rfl) (aN (c11 4 rfl) (aN (c11 2 rfl) (aN (c11 1 rfl) (aN (c11 0 rfl) aL aL) aL) (aN (c11 3 rfl) aL aL)) (aN (c11 7 rfl) (aN (c11 6 rfl) (aN (c11 5 rfl) aL aL) aL) (aN (c11 8 rfl) aL aL))) (aN (c11 14 rfl) (aN (c11 12 rfl) (aN (c11 11 rfl) (aN (c11 10 rfl) aL aL) aL) (aN (c11 13 rfl) aL aL)) (aN (c11 16 rfl) (aN (c11 15 rfl) aL aL) (aN (c11 17 rfl) aL aL)))) h
def zCt:Ent:=[.o 63249 [v92,zpQ] (.tup [zx7,j 0])]
def zud:Ent:=[.o 63729 [v92,j 1,j 0] (.tup [zzu,j 0])]
def zvK:Ent:=[.o 26853 [j 2,.fn (.f 44) [] [.vptr [v92]]] (v10),
 .o 26853 [j 2,.fn (.f 47) [] [.vptr [v92]]] (v10),
 .o 26853 [j 2,.fn (.f 48) [] [.vptr [v92]]] (v67),
 .o 26853 [j 2,.fn (.f 52) [] [.vptr [v92],.vptr [j 1],.vptr [j 0]]] (v11)]
def zvL:Ent:=[.m 48449 [v95] (j 0) (.o 46691 [v96] (j 0))
 (.o 64152 [v97] (j 0))]
def zwq:Ent:=[.m 13425 [v95,v43,v87] (v63) (.o 5737 [v97,v43,v90] (v57))
 (.o 53797 [v96,v43,v90] (v58))]
def zx3:Ent:=[.o 44484 [zr4] (j 0)]
def zuO:Ent:=[.o 3973 [zr4,.fn (.f 88) [] []] (.fsl false 1 1 [v74])]
def zwG:Ent:=[.o 39364 [.vsl false 1 [v85],.vsl true 1 [j 3,.nils,j 1,.nils]] (.fsl true 4 1 [j 1,.nils,j 1,.nils])]
def zqY:Ent:=[.m 33227 [v13,j 2] (.tup [j 0,v13]) (.m 29579 [v11,j 2] (.tup [j 1,v12]) (.o 29578 [v12,j 2] (.tup [j 0,v12]))
 (.l))
 (.o 33229 [v10,j 2] (.tup [j 1,v13]))]
def zrC:Ent:=[.m 23891 [v48] (.agg [j 1,.nils,j 4,.nils,j 1,.nils,j 4,.nils,j 1,.nils,j 4,.nils,j 1,.nils,j 4,.nils]) (.o 13102 [v52] (.agg [j 1,.nils,j 2,.nils,j 0,.nils,j 1,.nils,j 1,.nils,j 2,.nils,j 0,.nils,j 1,.nils]))
 (.o 32339 [v53] (.agg [j 1,.nils,j 2,.nils,j 1,.nils,j 2,.nils,j 0,.nils,j 1,.nils,j 0,.nils,j 1,.nils]))]
def zrd:Ent:=[.o 45199 [zje] (j 0)]
def k12:List (Nat×Ent):=[(9,zCt),(20,zud),(45,zvK),(60,zvL),(64,zwq),(84,zx3),(87,zuO),(90,zwG),(103,zqY),(104,zrC),(115,zrd)]
theorem zEI:za1 prog lib T5 k12=true:=by decide+kernel
def t6:Tr Ent:=(.n 84 zx3 (.n 45 zvK (.n 20 zud (.n 9 zCt .l .l) .l) (.n 64 zwq (.n 60 zvL .l .l) .l)) (.n 103 zqY (.n 90 zwG (.n 87 zuO .l .l) .l) (.n 115 zrd (.n 104 zrC .l .l) .l)))
def T6:List (Tr Ent):=t6::T5
theorem zH3 {Λ:Link} (hΛ:zav Λ) (hp:Λ.prog=prog) (hl:Λ.lib=lib):AllT Λ T6:=by
 have h:=zGA hΛ hp hl
 have c12:=za4 hΛ hp hl h zEI
 exact AllT.cons (aN (c12 5 rfl) (aN (c12 2 rfl) (aN (c12 1 rfl) (aN (c12 0 rfl) aL aL) aL) (aN (c12 4 rfl) (aN (c12 3 rfl) aL aL) aL)) (aN (c12 8 rfl) (aN (c12 7 rfl) (aN (c12 6 rfl) aL aL) aL) (aN (c12 10 rfl) (aN (c12 9 rfl) aL aL) aL))) h
def zwS:Ent:=[.o 32481 [v92] (zy1)]
def zvY:Ent:=[.o 32481 [v92] (.tup [.str [53,47,52],j 0])]
def zwu:Ent:=[.o 63729 [v92,j 1,j 0] (.tup [v4,j 0])]
def zvU:Ent:=[.m 61077 [v96,v21,v90] (.tup [.agg [v0,v2],j 0]) (.o 13017 [v97,v21,v90] (.tup [.agg [v2,v4],j 0]))
 (.l)]
def zwl:Ent:=[.o 12660 [v96,.str [52],v87,v91] (.tup [.agg [v3,v0],j 0])]
def zxJ:Ent:=[.o 53661 [zr4,zDz,v4] (.tup [v93,j 0])]
def zuJ:Ent:=[.m 58325 [v63,j 2] (v51) (.m 42125 [v82,j 2] (v48) (.o 38476 [v58,j 2] (v52))
 (.l))
 (.m 65467 [v86,j 2] (v56) (.o 61976 [v80,j 2] (v53))
 (.l))]
def zv5:Ent:=[.m 46823 [v48,v92] (v10) (.o 36034 [v52,v92] (v11))
 (.o 55271 [v53,v92] (v13))]
def zwW:Ent:=[.m 62507 [zje,v96,v90,j 0] (j 0) (.o 44889 [zje,v97,v90,j 1] (j 0))
 (.l)]
def zut:Ent:=[.o 7939 [.vsl true 1 [v0,v0,v0],.fn (.f 60) [] []] (.fsl false 1 1 [j 0])]
def zrT:Ent:=[.m 44889 [zje,v97,v90,j 1] (v86) (.o 24084 [zje,v95,v87,j 0] (v63))
 (.o 62507 [zje,v96,v90,j 0] (v58))]
def zqV:Ent:=[.o 4689 [zxU,.fn (.f 115) [] []] (.fsl false 1 1 [j 0])]
def k13:List (Nat×Ent):=[(16,zwS),(17,zvY),(18,zwu),(22,zvU),(25,zwl),(27,zxJ),(55,zuJ),(56,zv5),(66,zwW),(77,zut),(116,zrT),(120,zqV)]
theorem zD6:za1 prog lib T6 k13=true:=by decide+kernel
def t7:Tr Ent:=(.n 55 zuJ (.n 22 zvU (.n 17 zvY (.n 16 zwS .l .l) (.n 18 zwu .l .l)) (.n 27 zxJ (.n 25 zwl .l .l) .l)) (.n 77 zut (.n 66 zwW (.n 56 zv5 .l .l) .l) (.n 120 zqV (.n 116 zrT .l .l) .l)))
def T7:List (Tr Ent):=t7::T6
theorem zGE {Λ:Link} (hΛ:zav Λ) (hp:Λ.prog=prog) (hl:Λ.lib=lib):AllT Λ T7:=by
 have h:=zH3 hΛ hp hl
 have c13:=za4 hΛ hp hl h zD6
 exact AllT.cons (aN (c13 6 rfl) (aN (c13 3 rfl) (aN (c13 1 rfl) (aN (c13 0 rfl) aL aL) (aN (c13 2 rfl) aL aL)) (aN (c13 5 rfl) (aN (c13 4 rfl) aL aL) aL)) (aN (c13 9 rfl) (aN (c13 8 rfl) (aN (c13 7 rfl) aL aL) aL) (aN (c13 11 rfl) (aN (c13 10 rfl) aL aL) aL))) h
def zvD:Ent:=[.m 60666 [v92,v89] (zy1) (.o 44523 [v92,v88] (.tup [v2,j 0]))
 (.l)]
def zxM:Ent:=[.m 62507 [zje,v96,v90,j 0] (v13) (.o 44889 [zje,v97,v90,j 1] (v10))
 (.l)]
def zw8:Ent:=[.o 45200 [zxU] (j 0)]
def zwF:Ent:=[.o 45043 [zxU,v95,v87,j 0,j 4] (.fsl false 4 4 [j 1,.nils,j 2,.nils,j 0,.nils,j 1,.nils,j 0,.nils,j 1,.nils,j 0,.nils,j 1,.nils])]
def k14:List (Nat×Ent):=[(19,zvD),(67,zxM),(76,zw8),(82,zwF)]
theorem zES:za1 prog lib T7 k14=true:=by decide+kernel
def t8:Tr Ent:=(.n 76 zw8 (.n 67 zxM (.n 19 zvD .l .l) .l) (.n 82 zwF .l .l))
def T8:List (Tr Ent):=t8::T7
theorem zHX {Λ:Link} (hΛ:zav Λ) (hp:Λ.prog=prog) (hl:Λ.lib=lib):AllT Λ T8:=by
 have h:=zGE hΛ hp hl
 have c14:=za4 hΛ hp hl h zES
 exact AllT.cons (aN (c14 2 rfl) (aN (c14 1 rfl) (aN (c14 0 rfl) aL aL) aL) (aN (c14 3 rfl) aL aL)) h
def zuG:Ent:=[.m 62507 [zje,v96,v90,j 0] (.tup [v2,j 0]) (.o 44889 [zje,v97,v90,j 1] (zy1))
 (.l)]
def zu7:Ent:=[.o 27996 [zxU,.vsl true 1 [v0,v0,v0],zC2,j 0] (.tup [.fsl false 1 1 [v94],j 0])]
def k15:List (Nat×Ent):=[(24,zuG),(26,zu7)]
theorem zEz:za1 prog lib T8 k15=true:=by decide+kernel
def t9:Tr Ent:=(.n 26 zu7 (.n 24 zuG .l .l) .l)
def T9:List (Tr Ent):=t9::T8
theorem zHj {Λ:Link} (hΛ:zav Λ) (hp:Λ.prog=prog) (hl:Λ.lib=lib):AllT Λ T9:=by
 have h:=zHX hΛ hp hl
 have c15:=za4 hΛ hp hl h zEz
 exact AllT.cons (aN (c15 1 rfl) (aN (c15 0 rfl) aL aL) aL) h
def zBW:Ent:=[.o 7 [] (.bool true)]
def k16:List (Nat×Ent):=[(1,zBW)]
theorem zEt:za1 prog lib T9 k16=true:=by decide+kernel
def t10:Tr Ent:=(.n 1 zBW .l .l)
def T10:List (Tr Ent):=t10::T9
theorem zDy {Λ:Link} (hΛ:zav Λ) (hp:Λ.prog=prog) (hl:Λ.lib=lib):AllT Λ T10:=by
 have h:=zHj hΛ hp hl
 have c16:=za4 hΛ hp hl h zEt
 exact AllT.cons (aN (c16 0 rfl) aL aL) h
theorem holds {Λ:Link} (hΛ:zav Λ) (hp:Λ.prog=prog) (hl:Λ.lib=lib):PureC Λ 1 [] (.bool true):=Tr.all_find (zDy hΛ hp hl t10 (.head _)) (i:=1) rfl _ _ ⟨_,.head _,.inl rfl⟩
end VK1
end VE
