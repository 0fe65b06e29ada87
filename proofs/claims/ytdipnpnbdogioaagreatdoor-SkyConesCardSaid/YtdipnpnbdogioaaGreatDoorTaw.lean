import Derived.Test.YtdipnpnbdogioaaGreatDoorTav
import Derived.Test.YtdipnpnbdogioaaGreatDoorTau
set_option linter.all false
set_option maxRecDepth 100000
namespace VE
namespace VK1
def T0:List (Tr Ent):=[]
theorem zHM {Λ:Link} (_hΛ:zaz Λ) (_hp:Λ.prog=prog) (_hl:Λ.lib=lib):AllT Λ T0:=AllT.nil
abbrev j (n:Int):AV:= .int .i64 n
abbrev u (n:Nat):AV:= .int .u64 n
def w (l:List Nat):AV:= .vsl true l.length (l.map u)
def v0:AV:= .str [48]
def v1:AV:= .str [51,47,50]
def v2:AV:= .str [49,47,50]
def v3:AV:= .str [49,47,50,52]
def v4:AV:= .str [49]
def v5:AV:= .str [49,47,49,48]
def v6:AV:= .vsl true 2 [j 0,j 1]
def v7:AV:= .vsl true 2 [j 2,j 3]
def v8:AV:= .vsl true 3 [j 0,j 0,j 0]
def v9:AV:= .vsl true 4 [j 0,j 0,j 0,j 0]
def v10:AV:= .agg [j 3,.nils,j 2,.nils]
def v11:AV:= .agg [j 1,.nils,j 1,.nils]
def v12:AV:= .agg [j 0,.nils,j 1,.nils]
def v13:AV:= .agg [j 1,.nils,j 2,.nils]
def v14:AV:= .agg [j 1,.nils,j 24,.nils]
def v15:AV:= .agg [j 5,.nils,j 4,.nils]
def v16:AV:= .vsl true 2 [j 3,j 2]
def v17:AV:= .vsl true 2 [j 1,j 2]
def v18:AV:= .vsl true 2 [j 1,j 0]
def v19:AV:= .vsl true 2 [j 2,j 4]
def v20:AV:= .str [49,48]
def v21:AV:= .str [53]
def v22:AV:= .agg [j 1,.nils]
def v23:AV:= .agg [j 3,.nils]
def v24:AV:= .agg [j 6,.nils]
def v25:AV:= .agg [j 2,.nils]
def v26:AV:= .agg [j 0,.nils]
def v27:AV:= .agg [j 4,.nils]
def v28:AV:= .agg [j 5,.nils]
def v29:AV:= .agg [j 14,.nils]
def v30:AV:= .agg [j 10,.nils]
def v31:AV:= .agg [j 8,.nils]
def v32:AV:= .agg [j (-1),.nils]
def v33:AV:= .agg [j 12,.nils]
def v34:AV:= .agg [j 9,.nils]
def v35:AV:= .agg [j 16,.nils]
def v36:AV:= .agg [j 96,.nils]
def v37:AV:= .agg [j 100,.nils]
def v38:AV:= .agg [j 24,.nils]
def v39:AV:= .agg [j (-2),.nils]
def v40:AV:= .agg [j 3,.nils,j 1,.nils]
def v41:AV:= .vsl true 5 [j 1,j 1,j 1,j 1,j 1]
def v42:AV:= .agg [j 2,.nils,j 1,.nils]
def v43:AV:= .agg [j 5,.nils,j 1,.nils]
def v44:AV:= .agg [j 10,.nils,j 1,.nils]
def v45:AV:= .agg [j 8,.nils,j 1,.nils]
def v46:AV:= .agg [j 12,.nils,j 1,.nils]
def v47:AV:= .agg [j (-1),.nils,j 1,.nils]
def v48:AV:= .agg [j 0,j 0,j 1,.nils,j 2,.nils,j 1,.nils,j 2,.nils]
def v49:AV:= .tup [j 1,j 0]
def v50:AV:= .tup [j 0,j 0]
def v51:AV:= .agg [j 0,j 0,j 0,.nils,j 1,.nils,j 0,.nils,j 1,.nils]
def v52:AV:= .agg [j 0,j 0,j 0,.nils,j 1,.nils,j 1,.nils,j 2,.nils]
def v53:AV:= .agg [j 1,j 0,j 1,.nils,j 2,.nils,j 0,.nils,j 1,.nils]
def v54:AV:= .tup [j 1,j 1]
def v55:AV:= .tup [j 0,j 1]
def v56:AV:= .agg [j 1,j 1,j 0,.nils,j 1,.nils,j 0,.nils,j 1,.nils]
def v57:AV:= .agg [j 1,.nils,j 2,.nils,j 1,.nils,j 1,.nils]
def v58:AV:= .agg [j 0,.nils,j 1,.nils,j 1,.nils,j 2,.nils]
def v59:AV:= .agg [j 1,.nils,j 24,.nils,j 0,.nils,j 1,.nils]
def v60:AV:= .vsl false 2 [j 1,.nils,j 1,.nils,j 1,.nils,j 1,.nils]
def v61:AV:= .vsl false 4 [j 1,.nils,j 2,.nils,j 0,.nils,j 1,.nils,j 0,.nils,j 1,.nils,j 0,.nils,j 1,.nils]
def v62:AV:= .vsl true 3 [j 0,j 1,j 0]
def v63:AV:= .agg [j 0,.nils,j 1,.nils,j 0,.nils,j 1,.nils]
def v64:AV:= .agg [j 1,.nils,j 3,.nils]
def v65:AV:= .agg [j 1,.nils,j 4,.nils]
def v66:AV:= .agg [j 3,.nils,j 4,.nils]
def v67:AV:= .agg [j 7,.nils,j 2,.nils]
def v68:AV:= .agg [j 9,.nils,j 4,.nils]
def v69:AV:= .agg [j 1,.nils,j 8,.nils]
def v70:AV:= .agg [j 1,.nils,j 10,.nils]
def v71:AV:= .agg [j 1,.nils,j 12,.nils]
def v72:AV:= .vsl false 1 [j 1,.nils,j 1,.nils]
def v73:AV:= .vsl true 1 [j 1,.nils,j 1,.nils]
def v74:AV:= .vsl true 2 [j 1,.nils,j 1,.nils,j 1,.nils,j 1,.nils]
def v75:AV:= .agg [j 6,.nils,j 1,.nils]
def v76:AV:= .agg [j 4,.nils,j 1,.nils]
def v77:AV:= .agg [j 14,.nils,j 1,.nils]
def v78:AV:= .agg [j 1,.nils,j 1,.nils,j 0,.nils,j 1,.nils]
def v79:AV:= .agg [j 1,.nils,j 1,.nils,j 0,.nils,j 1,.nils,j 0,.nils,j 1,.nils,j 0,.nils,j 1,.nils]
def v80:AV:= .agg [j 3,.nils,j 2,.nils,j 0,.nils,j 1,.nils]
def v81:AV:= .agg [j 1,.nils,j 2,.nils,j 0,.nils,j 1,.nils]
def v82:AV:= .agg [j 1,.nils,j 2,.nils,j 1,.nils,j 2,.nils]
def v83:AV:= .agg [j 0,.nils,j 1,.nils,j 1,.nils,j 1,.nils]
def v84:AV:= .agg [j 1,.nils,j 10,.nils,j 0,.nils,j 1,.nils]
def v85:AV:= .vsl false 1 [j 3,.nils,j 1,.nils]
def v86:AV:= .agg [j 1,.nils,j 1,.nils,j 1,.nils,j 1,.nils]
def v87:AV:= .agg [v0,v0]
def v88:AV:= .agg [v1,v0]
def v89:AV:= .agg [v2,v2]
def v90:AV:= .agg [v0,v4]
def v91:AV:= .agg [v4,v0]
def v92:AV:= .vsl true 2 [v6,v7]
def v93:AV:= .vsl true 2 [v4,v4]
def v94:AV:= .vsl true 4 [v2,v0,v0,v0]
def v95:AV:= .agg [v0,v0,v0]
def v96:AV:= .agg [v0,v0,v20]
def v97:AV:= .agg [v5,v0,v0]
def v98:AV:= .tup [v26,v26]
def v99:AV:= .tup [v22,v26]
def zBb:AV:= .tup [v25,v26]
def zpt:AV:= .tup [v26,v22]
def zvm:AV:= .vsl true 2 [v19,v19]
def zzb:AV:= .vsl true 2 [v18,v16]
def zFr:AV:= .vsl true 2 [v17,v17]
def zpv:AV:= .vsl true 3 [v62,v62,v8]
def zzK:AV:= .tup [v1,j 0]
def zDu:AV:= .vsl true 1 [.str [51]]
def zD5:AV:= .vsl true 1 [v0,v0]
def zjv:AV:= .agg [v92,v21,v4,v2,v0,v0,v2,v0]
def zxY:AV:= .vsl true 1 [v92,v21,v4,v2,v0,v0,v2,v0]
def zsw:AV:= .vsl true 1 [v93]
def zBu:Ent:=[.m 40535 [v0,v0] (v87) (.m 17893 [v1,v0] (v88) (.m 17891 [v2,v0] (.agg [v2,v0]) (.o 9861 [v3,v0] (.agg [v3,v0]))
 (.l))
 (.m 24930 [v2,v2] (v89) (.o 18154 [v2,v4] (.agg [v2,v4]))
 (.l)))
 (.m 47574 [v0,v2] (.agg [v0,v2]) (.m 40798 [v0,v4] (v90) (.o 40536 [v4,v0] (v91))
 (.l))
 (.o 56238 [v5,v0] (.agg [v5,v0])))]
def zB5:Ent:=[.o 7 [] (v92)]
def zBY:Ent:=[.m 51556 [v93,v93] (.bool true) (.o 30452 [v94,v94] (.bool true))
 (.l)]
def zBV:Ent:=[.m 28694 [.bool false,j 12] (j 0) (.m 26327 [.bool false,j 3] (j 0) (.o 26064 [.bool false,j 2] (j 0))
 (.o 26853 [.bool false,j 5] (j 0)))
 (.m 33691 [.bool false,j 31] (j 0) (.o 28957 [.bool false,j 13] (j 0))
 (.l))]
def zBJ:Ent:=[.m 34670 [v8] (j 0) (.m 9480 [.vsl true 6 [j 0,j 0,j 0,j 0,j 0,j 0]] (j 0) (.o 3683 [.vsl false 1 [j 0]] (j 0))
 (.o 27379 [.vsl true 2 [j 0,j 0]] (j 0)))
 (.m 51832 [v9] (j 0) (.o 44227 [.vsl true 5 [j 0,j 0,j 0,j 0,j 0]] (j 0))
 (.l)),
 .o 44227 [.vsl false 5 [j 0,j 0,j 0,j 0,j 0]] (j 0)]
def zBj:Ent:=[.m 25801 [j 2,j 1] (j 3) (.m 25800 [j 1,j 1] (j 2) (.o 25799 [j 0,j 1] (j 1))
 (.l))
 (.m 25803 [j 4,j 1] (j 5) (.o 25802 [j 3,j 1] (j 4))
 (.l))]
def zCn:Ent:=[.m 51329 [j 0,j 1,.vptr [v92]] (j 2) (.m 51067 [j 1,j 0,.vptr [v92]] (j 1) (.o 51066 [j 0,j 0,.vptr [v92]] (j 0))
 (.l))
 (.o 51330 [j 1,j 1,.vptr [v92]] (j 3))]
def zBW:Ent:=[.m 9008 [v10] (v1) (.m 5358 [v11] (v4) (.o 5357 [v12] (v0))
 (.o 9006 [v13] (v2)))
 (.m 23741 [v14] (v3) (.o 16306 [v15] (.str [53,47,52]))
 (.l))]
def zBg:Ent:=[.m 51329 [j 0,j 1,.vptr [v92]] (j 2) (.m 51067 [j 1,j 0,.vptr [v92]] (j 1) (.o 51066 [j 0,j 0,.vptr [v92]] (j 0))
 (.l))
 (.o 51330 [j 1,j 1,.vptr [v92]] (j 3))]
def zBS:Ent:=[.m 51329 [j 0,j 1,.vptr [v92]] (j 4) (.m 51067 [j 1,j 0,.vptr [v92]] (j 1) (.o 51066 [j 0,j 0,.vptr [v92]] (j 0))
 (.l))
 (.o 51330 [j 1,j 1,.vptr [v92]] (j 9))]
def zCq:Ent:=[.m 27519 [v16,v16] (.bool true) (.m 26991 [v17,v17] (.bool true) (.o 19169 [v18,v18] (.bool true))
 (.l))
 (.o 35077 [v19,v19] (.bool true))]
def zCb:Ent:=[.m 48449 [v95] (.bool true) (.o 46691 [v96] (.bool false))
 (.o 64152 [v97] (.bool true))]
def zBQ:Ent:=[.o 45199 [zjv] (j 4)]
def zBT:Ent:=[.o 26588 [j 0,j 4] (j 4)]
def zCj:Ent:=[.m 26852 [j 1,.vptr [j 1000]] (.bool false) (.o 26851 [j 0,.vptr [j 1000]] (.bool false))
 (.l)]
def k0:List (Nat×Ent):=[(14,zBu),(15,zB5),(29,zBY),(31,zBV),(33,zBJ),(38,zBj),(44,zCn),(46,zBW),(47,zBg),(48,zBS),(59,zCq),(68,zCb),(80,zBQ),(81,zBT),(94,zCj)]
theorem zGo:za1 prog lib T0 k0=true:=by decide+kernel
def zCH:Ent:=[.m 26853 [j 2,.vptr [j 1000]] (.bool false) (.m 26852 [j 1,.vptr [j 100]] (.bool false) (.o 26851 [j 0,.vptr [j 100]] (.bool false))
 (.l))
 (.m 26855 [j 4,.vptr [j 1000]] (.bool false) (.o 26854 [j 3,.vptr [j 1000]] (.bool false))
 (.l))]
def zBB:Ent:=[.m 1844 [j 3] (.fn (.f 133) [] [.vptr [j 3]]) (.o 1843 [j 2] (.fn (.f 133) [] [.vptr [j 2]]))
 (.l)]
def zv9:Ent:=[.m 38722 [v22,v23] (v23) (.m 38201 [v24,v22] (v24) (.m 38196 [v22,v22] (v22) (.m 37934 [v25,v26] (v26) (.m 37933 [v22,v26] (v26) (.o 37932 [v26,v26] (v26))
 (.l))
 (.o 38195 [v26,v22] (v26)))
 (.m 38199 [v27,v22] (v27) (.m 38198 [v23,v22] (v23) (.o 38197 [v25,v22] (v25))
 (.l))
 (.o 38200 [v28,v22] (v28))))
 (.m 38460 [v25,v25] (v27) (.m 38458 [v26,v25] (v26) (.m 38209 [v29,v22] (v29) (.o 38205 [v30,v22] (v30))
 (.l))
 (.o 38459 [v22,v25] (v25)))
 (.m 38474 [.agg [j (-9),.nils],v25] (.agg [j (-18),.nils]) (.o 38462 [v27,v25] (v31))
 (.o 38721 [v26,v23] (v26)))))
 (.m 40036 [v32,v31] (.agg [j (-8),.nils]) (.m 38987 [v23,v27] (v33) (.m 38985 [v22,v27] (v27) (.m 38984 [v26,v27] (v26) (.o 38724 [v23,v23] (v34))
 (.l))
 (.o 38986 [v25,v27] (v31)))
 (.m 39247 [v26,v28] (v26) (.m 38991 [.agg [j 7,.nils],v27] (.agg [j 28,.nils]) (.o 38988 [v27,v27] (v35))
 (.l))
 (.o 39248 [v22,v28] (v28))))
 (.m 41096 [v31,v33] (v36) (.m 40572 [v30,v30] (v37) (.m 40563 [v22,v30] (v30) (.o 40562 [v26,v30] (v26))
 (.l))
 (.o 41089 [v22,v33] (v33)))
 (.m 64232 [v26,v37] (v26) (.o 44245 [v22,v38] (v38))
 (.o 64233 [v22,v37] (v37))))),
 .m 38458 [v32,v25] (v39) (.o 38195 [v32,v22] (v32))
 (.l)]
def zvT:Ent:=[.m 38196 [v22,v22] (v11) (.o 38195 [v26,v22] (v12))
 (.o 38198 [v23,v22] (v40))]
def zwM:Ent:=[.m 40564 [v25,v30] (j (-1)) (.o 38196 [v22,v22] (j 0))
 (.o 40567 [v28,v30] (j (-1)))]
def zxS:Ent:=[.m 38458 [v26,v25] (v25) (.m 37934 [v25,v32] (v22) (.m 37933 [v22,v26] (v22) (.o 37932 [v26,v26] (v26))
 (.l))
 (.o 38195 [v26,v22] (v22)))
 (.m 41100 [v33,v33] (v38) (.o 38986 [v25,v27] (v24))
 (.o 46902 [.agg [j 28,.nils],.agg [j (-18),.nils]] (v30)))]
def k1:List (Nat×Ent):=[(94,zCH),(96,zBB),(100,zv9),(101,zvT),(118,zwM),(119,zxS)]
theorem zGt:za1 prog lib T0 k1=true:=by decide+kernel
def zwt:Ent:=[.m 38468 [v30,v39] (v31) (.m 38197 [v25,v22] (v23) (.m 37935 [v23,v26] (v23) (.o 37933 [v22,v32] (v26))
 (.o 38196 [v22,v22] (v25)))
 (.m 38461 [v23,v39] (v22) (.o 38460 [v25,v25] (v27))
 (.l)))
 (.m 39247 [v26,v28] (v28) (.m 38984 [v26,v27] (v27) (.o 38721 [v26,v23] (v23))
 (.l))
 (.m 41626 [v33,.agg [j (-8),.nils]] (v27) (.o 40562 [v26,v30] (v30))
 (.l))),
 .o 38468 [v30,v25] (v33)]
def zvv:Ent:=[.m 26590 [.bool false,j 4] (j 0) (.m 26064 [.bool false,j 2] (j 0) (.o 25801 [.bool false,j 1] (j 0))
 (.l))
 (.m 28694 [.bool false,j 12] (j 0) (.o 26853 [.bool false,j 5] (j 0))
 (.l))]
def zwJ:Ent:=[.m 51832 [v9] (j 0) (.o 27379 [.vsl true 2 [j 0,j 0]] (j 0))
 (.l)]
def zvx:Ent:=[.m 2149 [.str [51]] (.bool true) (.m 2147 [v4] (.bool true) (.o 2146 [v0] (.bool true))
 (.o 2148 [.str [50]] (.bool true)))
 (.m 2151 [v21] (.bool true) (.o 2150 [.str [52]] (.bool true))
 (.o 14754 [v20] (.bool true)))]
def zwI:Ent:=[.m 26063 [j 1,j 2] (j 1) (.o 26062 [j 0,j 2] (j 0))
 (.o 26064 [j 2,j 2] (j 0)),
 .o 26062 [j (-1),j 2] (j 1)]
def zvo:Ent:=[.m 28694 [v25] (.bool false) (.m 28693 [v22] (.bool false) (.o 28692 [v26] (.bool false))
 (.l))
 (.m 28716 [v38] (.bool false) (.o 28695 [v23] (.bool false))
 (.l))]
def zxZ:Ent:=[.m 38468 [v30,v25] (.tup [v28,v26]) (.m 38458 [v26,v25] (v98) (.m 38198 [v23,v22] (.tup [v23,v26]) (.m 38196 [v22,v22] (v99) (.o 38195 [v26,v22] (v98))
 (.o 38197 [v25,v22] (zBb)))
 (.m 38204 [v34,v22] (.tup [v34,v26]) (.o 38199 [v27,v22] (.tup [v27,v26]))
 (.l)))
 (.m 38462 [v27,v25] (zBb) (.m 38460 [v25,v25] (v99) (.o 38459 [v22,v25] (zpt))
 (.l))
 (.m 38466 [v31,v25] (.tup [v27,v26]) (.o 38464 [v24,v25] (.tup [v23,v26]))
 (.l))))
 (.m 38987 [v23,v27] (.tup [v26,v23]) (.m 38984 [v26,v27] (v98) (.m 38725 [v27,v23] (.tup [v22,v22]) (.o 38472 [v29,v25] (.tup [.agg [j 7,.nils],v26]))
 (.l))
 (.m 38986 [v25,v27] (.tup [v26,v25]) (.o 38985 [v22,v27] (zpt))
 (.l)))
 (.m 38993 [v34,v27] (.tup [v25,v22]) (.m 38990 [v24,v27] (.tup [v22,v25]) (.o 38988 [v27,v27] (v99))
 (.l))
 (.m 40046 [v30,v31] (.tup [v22,v25]) (.o 38998 [v29,v27] (.tup [v23,v25]))
 (.l))))]
def k2:List (Nat×Ent):=[(119,zwt),(124,zvv),(125,zwJ),(129,zvx),(134,zwI),(151,zvo),(164,zxZ)]
theorem zH4:za1 prog lib T0 k2=true:=by decide+kernel
def zur:Ent:=[.m 40037 [v22,v31] (zpt) (.m 38722 [v22,v23] (zpt) (.m 38207 [v33,v22] (.tup [v33,v26]) (.m 38205 [v30,v22] (.tup [v30,v26]) (.o 38203 [v31,v22] (.tup [v31,v26]))
 (.l))
 (.m 38461 [v23,v25] (.tup [v22,v22]) (.o 38219 [v38,v22] (.tup [v38,v26]))
 (.l)))
 (.m 39252 [v28,v28] (v99) (.m 39080 [v36,v27] (.tup [v38,v26]) (.o 38724 [v23,v23] (v99))
 (.l))
 (.m 39518 [v31,v24] (.tup [v22,v25]) (.o 39257 [v30,v28] (zBb))
 (.l))))
 (.m 41089 [v22,v33] (zpt) (.m 40060 [v38,v31] (.tup [v23,v26]) (.m 40052 [v35,v31] (zBb) (.o 40042 [v24,v31] (.tup [v26,v24]))
 (.l))
 (.m 40567 [v28,v30] (.tup [v26,v28]) (.o 40563 [v22,v30] (zpt))
 (.l)))
 (.m 44245 [v22,v38] (zpt) (.m 44244 [v26,v38] (v98) (.o 42164 [v38,v35] (.tup [v22,v31]))
 (.l))
 (.m 63184 [v27,v36] (.tup [v26,v27]) (.o 44268 [v38,v38] (v99))
 (.l))))]
def k3:List (Nat×Ent):=[(164,zur)]
theorem zIf:za1 prog lib T0 k3=true:=by decide+kernel
def t1:Tr Ent:=(.n 81 zBT (.n 44 zCn (.n 31 zBV (.n 15 zB5 (.n 14 zBu .l .l) (.n 29 zBY .l .l)) (.n 38 zBj (.n 33 zBJ .l .l) .l)) (.n 59 zCq (.n 47 zBg (.n 46 zBW .l .l) (.n 48 zBS .l .l)) (.n 80 zBQ (.n 68 zCb .l .l) .l))) (.n 124 zvv (.n 101 zvT (.n 96 zBB (.n 94 (zCj++zCH) .l .l) (.n 100 zv9 .l .l)) (.n 119 (zxS++zwt) (.n 118 zwM .l .l) .l)) (.n 134 zwI (.n 129 zvx (.n 125 zwJ .l .l) .l) (.n 164 (zxZ++zur) (.n 151 zvo .l .l) .l))))
def T1:List (Tr Ent):=t1::T0
theorem zHW {Λ:Link} (hΛ:zaz Λ) (hp:Λ.prog=prog) (hl:Λ.lib=lib):AllT Λ T1:=by
 have h:=zHM hΛ hp hl;have c0:=za3 hΛ hp hl h zGo;have c1:=za3 hΛ hp hl h zGt;have c2:=za3 hΛ hp hl h zH4;have c3:=za3 hΛ hp hl h zIf;exact AllT.cons (aN (c0 13 rfl) (aN (c0 6 rfl) (aN (c0 3 rfl) (aN (c0 1 rfl) (aN (c0 0 rfl) aL aL) (aN (c0 2 rfl) aL aL)) (aN (c0 5 rfl) (aN (c0 4 rfl) aL aL) aL)) (aN (c0 10 rfl) (aN (c0 8 rfl) (aN (c0 7 rfl) aL aL) (aN (c0 9 rfl) aL aL)) (aN (c0 12 rfl) (aN (c0 11 rfl) aL aL) aL))) (aN (c2 1 rfl) (aN (c1 3 rfl) (aN (c1 1 rfl) (aN (.app (c0 14 rfl) (c1 0 rfl)) aL aL) (aN (c1 2 rfl) aL aL)) (aN (.app (c1 5 rfl) (c2 0 rfl)) (aN (c1 4 rfl) aL aL) aL)) (aN (c2 4 rfl) (aN (c2 3 rfl) (aN (c2 2 rfl) aL aL) aL) (aN (.app (c2 6 rfl) (c3 0 rfl)) (aN (c2 5 rfl) aL aL) aL)))) h
def zBK:Ent:=[.m 47931 [zvm,zvm] (.bool true) (.o 9899 [zzb,zzb] (.bool true))
 (.l),
 .o 9899 [zFr,zFr] (.bool true)]
def zCB:Ent:=[.o 7 [] (zjv)]
def zB0:Ent:=[.o 58093 [.vsl false 1 [v94],.vsl true 1 [v94]] (.bool true)]
def zBz:Ent:=[.m 43068 [j 1,j 1,j 2147483646] (j 0) (.m 25938 [j 2,j 1,j 16] (j 0) (.o 11651 [j 1,j 0,j 1000] (j 0))
 (.l))
 (.m 55041 [j 1,j (-999999999),j 999999999] (j 0) (.o 55040 [j 0,j (-999999999),j 999999999] (j 0))
 (.l))]
def zCi:Ent:=[.m 25649 [j 0,v41,.fn (.f 38) [] []] (j 5) (.o 12396 [j 0,.vsl false 1 [j 4],.fn (.f 81) [] []] (j 4))
 (.l)]
def zBy:Ent:=[.m 36730 [v11,v11] (v11) (.m 36468 [v42,v12] (v12) (.m 36467 [v11,v12] (v12) (.o 36466 [v12,v12] (v12))
 (.l))
 (.o 36729 [v12,v11] (v12)))
 (.m 37256 [v11,v40] (v40) (.m 37255 [v12,v40] (v12) (.o 36992 [v12,v42] (v12))
 (.l))
 (.o 37781 [v12,v43] (v12)))]
def zBZ:Ent:=[.m 31055 [v97,v43] (.bool true) (.o 15352 [v95,v43] (.bool true))
 (.l)]
def zB4:Ent:=[.m 39101 [v43,v44] (j (-1)) (.o 39098 [v42,v44] (j (-1)))
 (.l)]
def zBN:Ent:=[.m 36730 [v11,v11] (v42) (.m 36469 [v40,v12] (v40) (.m 36467 [v11,v12] (v11) (.o 36466 [v12,v12] (v12))
 (.l))
 (.o 36729 [v12,v11] (v11)))
 (.m 37002 [v44,.agg [j (-2),.nils,j 1,.nils]] (v45) (.o 36731 [v42,v11] (v40))
 (.o 37255 [v12,v40] (v40))),
 .m 37002 [v44,v42] (v46) (.o 36467 [v11,v47] (v12))
 (.l)]
def zBM:Ent:=[.o 4689 [zxY,.fn (.f 80) [] []] (.fsl false 1 1 [j 4])]
def zCt:Ent:=[.m 2150 [.str [52]] (j 0) (.m 2147 [v4] (j 0) (.o 2146 [v0] (j 0))
 (.o 2149 [.str [51]] (j 0)))
 (.m 14754 [v20] (j 0) (.o 2151 [v21] (j 0))
 (.l))]
def zCr:Ent:=[.m 5504 [v92,j 1,j 2] (j 1) (.m 2119 [v92,j 2,j 1] (j 2) (.m 1856 [v92,j 1,j 1] (j 3) (.o 1593 [v92,j (-1),j 1] (j 3))
 (.l))
 (.o 5241 [v92,j (-1),j 2] (j 1)))
 (.m 63729 [v92,j 1,j 0] (j 1) (.m 63466 [v92,j (-1),j 0] (j 1) (.o 5767 [v92,j 2,j 2] (j 0))
 (.l))
 (.o 63992 [v92,j 2,j 0] (j 0))),
 .m 63466 [v92,j 0,j 0] (j 0) (.m 5241 [v92,j 0,j 2] (j 0) (.o 1593 [v92,j 0,j 1] (j 2))
 (.l))
 (.m 63992 [v92,j 2,j (-1)] (j 2) (.o 63729 [v92,j 1,j (-1)] (j 3))
 (.l)),
 .o 63466 [v92,j (-1),j (-1)] (j 3),
 .o 63466 [v92,j 0,j (-1)] (j 2)]
def zw9:Ent:=[.m 62435 [v48,j 1,j 2] (v49) (.o 62172 [v48,j 0,j 2] (v50))
 (.l)]
def k4:List (Nat×Ent):=[(21,zBK),(23,zCB),(28,zB0),(34,zBz),(37,zCi),(49,zBy),(63,zBZ),(71,zB4),(74,zBN),(79,zBM),(86,zCt),(97,zCr),(105,zw9)]
theorem zHQ:za1 prog lib T1 k4=true:=by decide+kernel
def zxf:Ent:=[.m 60093 [v51,j 1,j 2] (v49) (.m 51383 [v52,j 0,j 2] (v50) (.m 5625 [v53,j 2,j 2] (v54) (.m 5362 [v53,j 1,j 2] (v50) (.o 5099 [v53,j 0,j 2] (v49))
 (.l))
 (.o 5888 [v53,j 3,j 2] (v55)))
 (.m 52172 [v52,j 3,j 2] (v54) (.m 51909 [v52,j 2,j 2] (v55) (.o 51646 [v52,j 1,j 2] (v49))
 (.l))
 (.o 59830 [v51,j 0,j 2] (v50))))
 (.m 60620 [v56,j 2,j 2] (v49) (.m 60357 [v56,j 1,j 2] (v55) (.m 60356 [v51,j 2,j 2] (v55) (.o 60094 [v56,j 0,j 2] (v54))
 (.l))
 (.o 60619 [v51,j 3,j 2] (v54)))
 (.m 62698 [v48,j 2,j 2] (v55) (.o 60883 [v56,j 3,j 2] (v50))
 (.o 62961 [v48,j 3,j 2] (v54))))]
def zvI:Ent:=[.m 9006 [v13] (.bool false) (.m 5358 [v11] (.bool false) (.o 5357 [v12] (.bool false))
 (.l))
 (.m 23741 [v14] (.bool false) (.o 9008 [v10] (.bool false))
 (.l))]
def zub:Ent:=[.m 44894 [v57] (.agg [v2,v4]) (.o 14255 [v58] (.agg [v0,v2]))
 (.o 52488 [v59] (.agg [v3,v0]))]
def zuz:Ent:=[.m 41248 [v60] (.fsl true 1 2 [v4,v4]) (.o 19556 [v61] (.fsl true 1 4 [v2,v0,v0,v0]))
 (.l)]
def zwc:Ent:=[.m 38990 [v24,v27] (v25) (.m 38724 [v23,v23] (v23) (.m 38461 [v23,v25] (v22) (.m 38459 [v22,v25] (v22) (.o 38458 [v26,v25] (v25))
 (.o 38460 [v25,v25] (v25)))
 (.m 38722 [v22,v23] (v22) (.o 38462 [v27,v25] (v25))
 (.l)))
 (.m 38986 [v25,v27] (v25) (.m 38985 [v22,v27] (v22) (.o 38984 [v26,v27] (v27))
 (.l))
 (.m 38988 [v27,v27] (v27) (.o 38987 [v23,v27] (v22))
 (.l))))
 (.m 40567 [v28,v30] (v28) (.m 40042 [v24,v31] (v25) (.m 38998 [v29,v27] (v25) (.o 38993 [v34,v27] (v22))
 (.o 40037 [v22,v31] (v22)))
 (.m 40563 [v22,v30] (v22) (.o 40046 [v30,v31] (v25))
 (.l)))
 (.m 44244 [v26,v38] (v38) (.m 42164 [v38,v35] (v31) (.o 41089 [v22,v33] (v22))
 (.l))
 (.m 63184 [v27,v36] (v27) (.o 44245 [v22,v38] (v22))
 (.l))))]
def zvh:Ent:=[.m 53443 [v19,.fn (.f 94) [] [.vptr [j 1000]]] (j (-1)) (.m 53180 [v7,.fn (.f 94) [] [.vptr [j 1000]]] (j (-1)) (.o 52652 [v6,.fn (.f 94) [] [.vptr [j 1000]]] (j (-1)))
 (.l))
 (.m 59943 [v62,.fn (.f 94) [] [.vptr [j 100]]] (j (-1)) (.o 59680 [v8,.fn (.f 94) [] [.vptr [j 100]]] (j (-1)))
 (.l))]
def zwV:Ent:=[.m 9006 [v13] (v26) (.o 5357 [v12] (v26))
 (.l)]
def k5:List (Nat×Ent):=[(105,zxf),(107,zvI),(114,zub),(123,zuz),(130,zwc),(132,zvh),(149,zwV)]
theorem zH8:za1 prog lib T1 k5=true:=by decide+kernel
def zyf:Ent:=[.m 9008 [v10] (v22) (.o 5358 [v11] (v22))
 (.l)]
def zw7:Ent:=[.m 52923 [v30,j 2] (v37) (.o 52660 [v30,j 1] (v30))
 (.l)]
def k6:List (Nat×Ent):=[(149,zyf),(155,zw7)]
theorem zGh:za1 prog lib T1 k6=true:=by decide+kernel
def t2:Tr Ent:=(.n 86 zCt (.n 49 zBy (.n 28 zB0 (.n 23 zCB (.n 21 zBK .l .l) .l) (.n 37 zCi (.n 34 zBz .l .l) .l)) (.n 74 zBN (.n 71 zB4 (.n 63 zBZ .l .l) .l) (.n 79 zBM .l .l))) (.n 123 zuz (.n 107 zvI (.n 105 (zw9++zxf) (.n 97 zCr .l .l) .l) (.n 114 zub .l .l)) (.n 149 (zwV++zyf) (.n 132 zvh (.n 130 zwc .l .l) .l) (.n 155 zw7 .l .l))))
def T2:List (Tr Ent):=t2::T1
theorem zHR {Λ:Link} (hΛ:zaz Λ) (hp:Λ.prog=prog) (hl:Λ.lib=lib):AllT Λ T2:=by
 have h:=zHW hΛ hp hl;have c4:=za3 hΛ hp hl h zHQ;have c5:=za3 hΛ hp hl h zH8;have c6:=za3 hΛ hp hl h zGh;exact AllT.cons (aN (c4 10 rfl) (aN (c4 5 rfl) (aN (c4 2 rfl) (aN (c4 1 rfl) (aN (c4 0 rfl) aL aL) aL) (aN (c4 4 rfl) (aN (c4 3 rfl) aL aL) aL)) (aN (c4 8 rfl) (aN (c4 7 rfl) (aN (c4 6 rfl) aL aL) aL) (aN (c4 9 rfl) aL aL))) (aN (c5 3 rfl) (aN (c5 1 rfl) (aN (.app (c4 12 rfl) (c5 0 rfl)) (aN (c4 11 rfl) aL aL) aL) (aN (c5 2 rfl) aL aL)) (aN (.app (c5 6 rfl) (c6 0 rfl)) (aN (c5 5 rfl) (aN (c5 4 rfl) aL aL) aL) (aN (c6 1 rfl) aL aL)))) h
def zBP:Ent:=[.o 1842 [j 1] (j 0)]
def zBl:Ent:=[.m 45155 [j 0,j 1,.vptr [zpv],.vptr [v92],.vptr [j 1]] (j 2) (.m 44893 [j 1,j 0,.vptr [zpv],.vptr [v92],.vptr [j 1]] (j 4) (.o 44892 [j 0,j 0,.vptr [zpv],.vptr [v92],.vptr [j 1]] (j 2))
 (.l))
 (.o 45156 [j 1,j 1,.vptr [zpv],.vptr [v92],.vptr [j 1]] (j 4))]
def zCJ:Ent:=[.m 36730 [v11,v11] (v12) (.m 36467 [v11,v12] (v11) (.o 36466 [v12,v12] (v12))
 (.l))
 (.o 37002 [v44,v42] (v45))]
def zB3:Ent:=[.m 1842 [j 1] (j 0) (.o 1841 [j 0] (j 0))
 (.l)]
def zCu:Ent:=[.m 45155 [j 0,j 1,.vptr [v92],.vptr [j 1],.vptr [j 0]] (j 1) (.m 44893 [j 1,j 0,.vptr [v92],.vptr [j 1],.vptr [j 0]] (j 1) (.o 44892 [j 0,j 0,.vptr [v92],.vptr [j 1],.vptr [j 0]] (j 1))
 (.l))
 (.o 45156 [j 1,j 1,.vptr [v92],.vptr [j 1],.vptr [j 0]] (j 1))]
def zBA:Ent:=[.m 42377 [v91] (j 0) (.o 42376 [v87] (j 0))
 (.o 42639 [v90] (j 0))]
def zB7:Ent:=[.m 9008 [v10] (zzK) (.o 9006 [v13] (.tup [v2,j 0]))
 (.l)]
def zB9:Ent:=[.m 45155 [j 0,j 1,.vptr [v92],.vptr [j 1],.vptr [j 0]] (j 3) (.m 44893 [j 1,j 0,.vptr [v92],.vptr [j 1],.vptr [j 0]] (j 0) (.o 44892 [j 0,j 0,.vptr [v92],.vptr [j 1],.vptr [j 0]] (j 1))
 (.l))
 (.o 45156 [j 1,j 1,.vptr [v92],.vptr [j 1],.vptr [j 0]] (j 2))]
def zB6:Ent:=[.m 65476 [v63,v11] (v63) (.o 1007 [v63,v43] (v63))
 (.l)]
def zBi:Ent:=[.o 29001 [zDu,.fn (.f 86) [] []] (.fsl false 1 1 [j 0])]
def zCF:Ent:=[.m 53443 [v19,.fn (.f 94) [] [.vptr [j 1000]]] (.bool false) (.m 53180 [v7,.fn (.f 94) [] [.vptr [j 1000]]] (.bool false) (.o 52652 [v6,.fn (.f 94) [] [.vptr [j 1000]]] (.bool false))
 (.l))
 (.m 59943 [v62,.fn (.f 94) [] [.vptr [j 100]]] (.bool false) (.o 59680 [v8,.fn (.f 94) [] [.vptr [j 100]]] (.bool false))
 (.l))]
def zyg:Ent:=[.m 38990 [v24,v27] (v10) (.m 38724 [v23,v23] (v11) (.m 38461 [v23,v25] (v10) (.m 38459 [v22,v25] (v13) (.o 38458 [v26,v25] (v12))
 (.o 38460 [v25,v25] (v11)))
 (.m 38722 [v22,v23] (v64) (.o 38462 [v27,v25] (v42))
 (.l)))
 (.m 38986 [v25,v27] (v13) (.m 38985 [v22,v27] (v65) (.o 38984 [v26,v27] (v12))
 (.l))
 (.m 38988 [v27,v27] (v11) (.o 38987 [v23,v27] (v66))
 (.l))))
 (.m 40567 [v28,v30] (v13) (.m 40042 [v24,v31] (v66) (.m 38998 [v29,v27] (v67) (.o 38993 [v34,v27] (v68))
 (.o 40037 [v22,v31] (v69)))
 (.m 40563 [v22,v30] (v70) (.o 40046 [v30,v31] (v15))
 (.l)))
 (.m 44244 [v26,v38] (v12) (.m 42164 [v38,v35] (v10) (.o 41089 [v22,v33] (v71))
 (.l))
 (.m 63184 [v27,v36] (v14) (.o 44245 [v22,v38] (v14))
 (.l))))]
def zxd:Ent:=[.m 47498 [v12,.vsl false 4 [j 0,.nils,j 1,.nils,j 0,.nils,j 1,.nils,j 1,.nils,j 1,.nils,j 0,.nils,j 1,.nils],.fn (.f 74) [] []] (v11) (.o 20032 [v12,.vsl false 4 [j 3,.nils,j 1,.nils,j 0,.nils,j 1,.nils,j 0,.nils,j 1,.nils,j 0,.nils,j 1,.nils],.fn (.f 74) [] []] (v40))
 (.l)]
def zvd:Ent:=[.o 2147 [v4] (v22)]
def k7:List (Nat×Ent):=[(36,zBP),(41,zBl),(50,zCJ),(51,zB3),(52,zCu),(53,zBA),(57,zB7),(58,zB9),(75,zB6),(85,zBi),(95,zCF),(101,zyg),(106,zxd),(110,zvd)]
theorem zGV:za1 prog lib T2 k7=true:=by decide+kernel
def zt8:Ent:=[.m 2150 [.str [52]] (v27) (.m 2148 [.str [50]] (v25) (.o 2146 [v0] (v26))
 (.o 2149 [.str [51]] (v23)))
 (.m 14754 [v20] (v30) (.o 2151 [v21] (v28))
 (.l))]
def zya:Ent:=[.o 25238 [v63,v63] (v63)]
def zyb:Ent:=[.m 44894 [v57] (.bool false) (.o 14255 [v58] (.bool false))
 (.o 52488 [v59] (.bool false))]
def zvz:Ent:=[.m 36994 [v72,v73] (v11) (.o 11145 [v74,v74] (v42))
 (.l)]
def zxG:Ent:=[.m 44566 [v61,.fn (.f 107) [] []] (j (-1)) (.o 737 [v60,.fn (.f 107) [] []] (j (-1)))
 (.l)]
def zuw:Ent:=[.o 42642 [v93] (j 0)]
def k8:List (Nat×Ent):=[(110,zt8),(112,zya),(113,zyb),(131,zvz),(160,zxG),(161,zuw)]
theorem zGG:za1 prog lib T2 k8=true:=by decide+kernel
def t3:Tr Ent:=(.n 85 zBi (.n 52 zCu (.n 50 zCJ (.n 41 zBl (.n 36 zBP .l .l) .l) (.n 51 zB3 .l .l)) (.n 58 zB9 (.n 57 zB7 (.n 53 zBA .l .l) .l) (.n 75 zB6 .l .l))) (.n 112 zya (.n 106 zxd (.n 101 zyg (.n 95 zCF .l .l) .l) (.n 110 (zvd++zt8) .l .l)) (.n 160 zxG (.n 131 zvz (.n 113 zyb .l .l) .l) (.n 161 zuw .l .l))))
def T3:List (Tr Ent):=t3::T2
theorem zGY {Λ:Link} (hΛ:zaz Λ) (hp:Λ.prog=prog) (hl:Λ.lib=lib):AllT Λ T3:=by
 have h:=zHR hΛ hp hl;have c7:=za3 hΛ hp hl h zGV;have c8:=za3 hΛ hp hl h zGG;exact AllT.cons (aN (c7 9 rfl) (aN (c7 4 rfl) (aN (c7 2 rfl) (aN (c7 1 rfl) (aN (c7 0 rfl) aL aL) aL) (aN (c7 3 rfl) aL aL)) (aN (c7 7 rfl) (aN (c7 6 rfl) (aN (c7 5 rfl) aL aL) aL) (aN (c7 8 rfl) aL aL))) (aN (c8 1 rfl) (aN (c7 12 rfl) (aN (c7 11 rfl) (aN (c7 10 rfl) aL aL) aL) (aN (.app (c7 13 rfl) (c8 0 rfl)) aL aL)) (aN (c8 4 rfl) (aN (c8 3 rfl) (aN (c8 2 rfl) aL aL) aL) (aN (c8 5 rfl) aL aL)))) h
def zCC:Ent:=[.m 57092 [v92,j 1000] (j 0) (.o 28943 [zpv,j 100] (j 0))
 (.o 61531 [zvm,j 1000] (j 0))]
def zCo:Ent:=[.o 56899 [v41,.fn (.f 36) [] []] (.fsl false 1 5 [j 0,j 0,j 0,j 0,j 0])]
def zCA:Ent:=[.o 26853 [j 2,.fn (.f 58) [] [.vptr [v92],.vptr [j 1],.vptr [j 0]]] (zzb),
 .o 26853 [j 2,.fn (.f 41) [] [.vptr [zpv],.vptr [v92],.vptr [j 1]]] (zvm)]
def zCh:Ent:=[.m 32083 [v75,v65] (v10) (.m 17515 [v10,v10] (v68) (.m 13339 [v11,v13] (v13) (.m 13338 [v12,v13] (v12) (.o 5093 [v70,v43] (v13))
 (.l))
 (.m 16987 [v13,v13] (v65) (.o 13342 [v76,v13] (v42))
 (.l)))
 (.m 22905 [v11,v14] (v14) (.m 22904 [v12,v14] (v12) (.o 22778 [v43,v70] (v13))
 (.l))
 (.o 32081 [v76,v65] (v11))))
 (.m 47411 [v65,v12] (v12) (.m 40378 [v13,v11] (v13) (.m 40115 [v13,v12] (v12) (.o 32091 [v77,v65] (v67))
 (.l))
 (.m 40904 [v13,v40] (v10) (.o 40641 [v13,v42] (v11))
 (.l)))
 (.m 48200 [v65,v40] (v66) (.m 47937 [v65,v42] (v13) (.o 47674 [v65,v11] (v65))
 (.l))
 (.o 55471 [v40,v64] (v11))))]
def zCy:Ent:=[.m 2151 [v21] (v43) (.m 2149 [.str [51]] (v40) (.m 2147 [v4] (v11) (.o 2146 [v0] (v12))
 (.l))
 (.o 2150 [.str [52]] (v76)))
 (.m 45023 [v2] (v13) (.m 17849 [v5] (v70) (.o 14754 [v20] (v44))
 (.l))
 (.o 45025 [v1] (v10)))]
def zBX:Ent:=[.m 44894 [v57] (.tup [.agg [v2,v4],j 0]) (.o 14255 [v58] (.tup [.agg [v0,v2],j 0]))
 (.o 52488 [v59] (.tup [.agg [v3,v0],j 0]))]
def zBs:Ent:=[.o 25239 [v78,v63] (v78)]
def zBG:Ent:=[.m 5365 [v45] (v69) (.m 5360 [v40] (v64) (.o 5359 [v42] (v13))
 (.o 5361 [v76] (v65)))
 (.m 5369 [v46] (v71) (.o 5367 [v44] (v70))
 (.l))]
def zCw:Ent:=[.m 32077 [v12,v65] (v65) (.m 13338 [v12,v13] (v13) (.m 13076 [v11,.agg [j (-1),.nils,j 2,.nils]] (v13) (.o 1265 [v69,.agg [j (-1),.nils,j 12,.nils]] (v14))
 (.l))
 (.m 24283 [v65,v13] (v66) (.o 16987 [v13,v13] (v11))
 (.l)))
 (.m 40117 [v10,v47] (v13) (.m 40115 [v13,v12] (v13) (.o 39677 [v67,.agg [j (-9),.nils,j 4,.nils]] (v15))
 (.l))
 (.o 43550 [v66,v66] (v10)))]
def zBo:Ent:=[.m 45023 [v2] (j 0) (.o 17849 [v5] (j 0))
 (.o 45025 [v1] (j 0))]
def zBE:Ent:=[.o 30369 [v72,.vptr [v73]] (v11)]
def k9:List (Nat×Ent):=[(32,zCC),(35,zCo),(40,zCA),(49,zCh),(62,zCy),(65,zBX),(72,zBs),(73,zBG),(74,zCw),(86,zBo),(91,zBE)]
theorem zGy:za1 prog lib T3 k9=true:=by decide+kernel
def zrp:Ent:=[.m 21813 [v56] (v79) (.o 21549 [v51] (v79))
 (.l)]
def zri:Ent:=[.o 1866 [zD5,.fn (.f 53) [] []] (.fsl false 1 1 [j 0])]
def zrb:Ent:=[.m 44566 [v61,.fn (.f 107) [] []] (.bool false) (.o 737 [v60,.fn (.f 107) [] []] (.bool false))
 (.l)]
def zr3:Ent:=[.o 2131 [v93,.vptr [zsw]] (j 0)]
def k10:List (Nat×Ent):=[(104,zrp),(121,zri),(122,zrb),(126,zr3)]
theorem zEE:za1 prog lib T3 k10=true:=by decide+kernel
def t4:Tr Ent:=(.n 73 zBG (.n 49 zCh (.n 35 zCo (.n 32 zCC .l .l) (.n 40 zCA .l .l)) (.n 65 zBX (.n 62 zCy .l .l) (.n 72 zBs .l .l))) (.n 104 zrp (.n 86 zBo (.n 74 zCw .l .l) (.n 91 zBE .l .l)) (.n 122 zrb (.n 121 zri .l .l) (.n 126 zr3 .l .l))))
def T4:List (Tr Ent):=t4::T3
theorem zHc {Λ:Link} (hΛ:zaz Λ) (hp:Λ.prog=prog) (hl:Λ.lib=lib):AllT Λ T4:=by
 have h:=zGY hΛ hp hl;have c9:=za3 hΛ hp hl h zGy;have c10:=za3 hΛ hp hl h zEE;exact AllT.cons (aN (c9 7 rfl) (aN (c9 3 rfl) (aN (c9 1 rfl) (aN (c9 0 rfl) aL aL) (aN (c9 2 rfl) aL aL)) (aN (c9 5 rfl) (aN (c9 4 rfl) aL aL) (aN (c9 6 rfl) aL aL))) (aN (c10 0 rfl) (aN (c9 9 rfl) (aN (c9 8 rfl) aL aL) (aN (c9 10 rfl) aL aL)) (aN (c10 2 rfl) (aN (c10 1 rfl) aL aL) (aN (c10 3 rfl) aL aL)))) h
def zCd:Ent:=[.o 32481 [v92] (j 0)]
def zCL:Ent:=[.o 31824 [j 1,j 2,v41] (.tup [zFr,j 0])]
def zu2:Ent:=[.m 37836 [v67,v68] (v15) (.m 13339 [v11,v13] (v13) (.o 1528 [v69,v71] (v14))
 (.l))
 (.m 40380 [v10,v11] (v13) (.o 40115 [v13,v12] (v13))
 (.l))]
def zwG:Ent:=[.m 26771 [v89] (j 0) (.m 19734 [v88] (j 0) (.o 19732 [.agg [v2,v0]] (j 0))
 (.l))
 (.o 58079 [.agg [v5,v0]] (j 0))]
def zuF:Ent:=[.m 42376 [v87] (v63) (.m 19734 [v88] (v80) (.o 19732 [.agg [v2,v0]] (v81))
 (.o 26771 [v89] (v82)))
 (.m 42639 [v90] (v83) (.o 42377 [v91] (v78))
 (.o 58079 [.agg [v5,v0]] (v84)))]
def zvD:Ent:=[.o 44745 [v56,v92] (v40)]
def zwd:Ent:=[.m 25846 [v21,j 0] (j 0) (.m 25845 [.str [52],j 0] (j 0) (.o 25841 [v0,j 0] (j 0))
 (.l))
 (.m 38449 [v20,j 0] (j 0) (.o 26105 [v4,j 1] (j 0))
 (.l))]
def zyl:Ent:=[.o 13594 [v96,v43] (.bool true)]
def zv7:Ent:=[.m 37522 [v76,v76] (v11) (.m 36996 [v76,v42] (v42) (.m 36993 [v11,v42] (v13) (.o 36992 [v12,v42] (v12))
 (.l))
 (.o 37258 [v40,v40] (v11)))
 (.m 37532 [v77,v76] (v67) (.o 37524 [v75,v76] (v10))
 (.o 39101 [v43,v44] (v13)))]
def zvc:Ent:=[.m 33840 [v84,v43] (v81) (.m 3604 [v81,v11] (v81) (.o 3341 [v81,v12] (v63))
 (.o 10745 [v57,v11] (v57)))
 (.m 49226 [v83,v13] (v58) (.o 45627 [v58,v11] (v58))
 (.o 51652 [v78,v14] (v59)))]
def zxq:Ent:=[.o 42377 [zD5] (j 0)]
def zu7:Ent:=[.m 41248 [v60] (.tup [v93,j 0]) (.o 19556 [v61] (.tup [v94,j 0]))
 (.l)]
def zwl:Ent:=[.m 42642 [v93] (.fsl true 4 2 [j 1,.nils,j 1,.nils,j 1,.nils,j 1,.nils]) (.o 3991 [zDu] (.fsl true 4 1 [j 3,.nils,j 1,.nils]))
 (.l)]
def zxO:Ent:=[.o 2579 [.vsl false 1 [v74],.vptr [v4]] (.fsl false 1 1 [v85])]
def zvK:Ent:=[.o 63847 [.vsl true 2 [v72,v72],.fn (.f 91) [] [.vptr [v73]]] (.fsl false 4 2 [j 1,.nils,j 1,.nils,j 1,.nils,j 1,.nils])]
def zqN:Ent:=[.m 61636 [v12,v61,.fn (.f 74) [] []] (v13) (.o 47668 [v12,.vsl false 4 [j 0,.nils,j 1,.nils,j 1,.nils,j 4,.nils,j 1,.nils,j 2,.nils,j 3,.nils,j 4,.nils],.fn (.f 74) [] []] (v10))
 (.l)]
def zqW:Ent:=[.m 12900 [v57,v81] (v86) (.m 9251 [v83,v81] (v57) (.o 5389 [v58,v63] (v58))
 (.l))
 (.o 36028 [v57,v63] (v57))]
def zrL:Ent:=[.o 3973 [zsw,.fn (.f 126) [] [.vptr [zsw]]] (j 0)]
def k11:List (Nat×Ent):=[(4,zCd),(5,zCL),(50,zu2),(53,zwG),(54,zuF),(56,zvD),(61,zwd),(63,zyl),(70,zv7),(75,zvc),(78,zxq),(83,zu7),(88,zwl),(89,zxO),(92,zvK),(106,zqN),(112,zqW),(127,zrL)]
theorem zFc:za1 prog lib T4 k11=true:=by decide+kernel
def t5:Tr Ent:=(.n 75 zvc (.n 54 zuF (.n 50 zu2 (.n 5 zCL (.n 4 zCd .l .l) .l) (.n 53 zwG .l .l)) (.n 63 zyl (.n 61 zwd (.n 56 zvD .l .l) .l) (.n 70 zv7 .l .l))) (.n 92 zvK (.n 88 zwl (.n 83 zu7 (.n 78 zxq .l .l) .l) (.n 89 zxO .l .l)) (.n 112 zqW (.n 106 zqN .l .l) (.n 127 zrL .l .l))))
def T5:List (Tr Ent):=t5::T4
theorem zG4 {Λ:Link} (hΛ:zaz Λ) (hp:Λ.prog=prog) (hl:Λ.lib=lib):AllT Λ T5:=by
 have h:=zHc hΛ hp hl;have c11:=za3 hΛ hp hl h zFc;exact AllT.cons (aN (c11 9 rfl) (aN (c11 4 rfl) (aN (c11 2 rfl) (aN (c11 1 rfl) (aN (c11 0 rfl) aL aL) aL) (aN (c11 3 rfl) aL aL)) (aN (c11 7 rfl) (aN (c11 6 rfl) (aN (c11 5 rfl) aL aL) aL) (aN (c11 8 rfl) aL aL))) (aN (c11 14 rfl) (aN (c11 12 rfl) (aN (c11 11 rfl) (aN (c11 10 rfl) aL aL) aL) (aN (c11 13 rfl) aL aL)) (aN (c11 16 rfl) (aN (c11 15 rfl) aL aL) (aN (c11 17 rfl) aL aL)))) h
def zBC:Ent:=[.o 63249 [v92,zpv] (.tup [zvm,j 0])]
def zx7:Ent:=[.o 63729 [v92,j 1,j 0] (.tup [zzb,j 0])]
def zud:Ent:=[.o 26853 [j 2,.fn (.f 44) [] [.vptr [v92]]] (v10),
 .o 26853 [j 2,.fn (.f 47) [] [.vptr [v92]]] (v10),
 .o 26853 [j 2,.fn (.f 48) [] [.vptr [v92]]] (v67),
 .o 26853 [j 2,.fn (.f 52) [] [.vptr [v92],.vptr [j 1],.vptr [j 0]]] (v11)]
def zvR:Ent:=[.m 48449 [v95] (j 0) (.o 46691 [v96] (j 0))
 (.o 64152 [v97] (j 0))]
def zxg:Ent:=[.m 13425 [v95,v43,v87] (v63) (.o 5737 [v97,v43,v90] (v57))
 (.o 53797 [v96,v43,v90] (v58))]
def zu0:Ent:=[.o 44484 [zsw] (j 0)]
def zu3:Ent:=[.o 3973 [zsw,.fn (.f 88) [] []] (.fsl false 1 1 [v74])]
def zvl:Ent:=[.o 39364 [.vsl false 1 [v85],.vsl true 1 [j 3,.nils,j 1,.nils]] (.fsl true 4 1 [j 1,.nils,j 1,.nils])]
def zqR:Ent:=[.m 33227 [v13,j 2] (.tup [j 0,v13]) (.m 29579 [v11,j 2] (.tup [j 1,v12]) (.o 29578 [v12,j 2] (.tup [j 0,v12]))
 (.l))
 (.o 33229 [v10,j 2] (.tup [j 1,v13]))]
def zru:Ent:=[.m 23891 [v48] (.agg [j 1,.nils,j 4,.nils,j 1,.nils,j 4,.nils,j 1,.nils,j 4,.nils,j 1,.nils,j 4,.nils]) (.o 13102 [v52] (.agg [j 1,.nils,j 2,.nils,j 0,.nils,j 1,.nils,j 1,.nils,j 2,.nils,j 0,.nils,j 1,.nils]))
 (.o 32339 [v53] (.agg [j 1,.nils,j 2,.nils,j 1,.nils,j 2,.nils,j 0,.nils,j 1,.nils,j 0,.nils,j 1,.nils]))]
def zqS:Ent:=[.o 45199 [zjv] (j 0)]
def k12:List (Nat×Ent):=[(9,zBC),(20,zx7),(45,zud),(60,zvR),(64,zxg),(84,zu0),(87,zu3),(90,zvl),(103,zqR),(104,zru),(115,zqS)]
theorem zC5:za1 prog lib T5 k12=true:=by decide+kernel
def t6:Tr Ent:=(.n 84 zu0 (.n 45 zud (.n 20 zx7 (.n 9 zBC .l .l) .l) (.n 64 zxg (.n 60 zvR .l .l) .l)) (.n 103 zqR (.n 90 zvl (.n 87 zu3 .l .l) .l) (.n 115 zqS (.n 104 zru .l .l) .l)))
def T6:List (Tr Ent):=t6::T5
theorem zH7 {Λ:Link} (hΛ:zaz Λ) (hp:Λ.prog=prog) (hl:Λ.lib=lib):AllT Λ T6:=by
 have h:=zG4 hΛ hp hl;have c12:=za3 hΛ hp hl h zC5;exact AllT.cons (aN (c12 5 rfl) (aN (c12 2 rfl) (aN (c12 1 rfl) (aN (c12 0 rfl) aL aL) aL) (aN (c12 4 rfl) (aN (c12 3 rfl) aL aL) aL)) (aN (c12 8 rfl) (aN (c12 7 rfl) (aN (c12 6 rfl) aL aL) aL) (aN (c12 10 rfl) (aN (c12 9 rfl) aL aL) aL))) h
def zwg:Ent:=[.o 32481 [v92] (zzK)]
def zx4:Ent:=[.o 32481 [v92] (.tup [.str [53,47,52],j 0])]
def zuV:Ent:=[.o 63729 [v92,j 1,j 0] (.tup [v4,j 0])]
def zu8:Ent:=[.m 61077 [v96,v21,v90] (.tup [.agg [v0,v2],j 0]) (.o 13017 [v97,v21,v90] (.tup [.agg [v2,v4],j 0]))
 (.l)]
def zuK:Ent:=[.o 12660 [v96,.str [52],v87,v91] (.tup [.agg [v3,v0],j 0])]
def zvw:Ent:=[.o 53661 [zsw,zDu,v4] (.tup [v93,j 0])]
def zyk:Ent:=[.m 58325 [v63,j 2] (v51) (.m 42125 [v82,j 2] (v48) (.o 38476 [v58,j 2] (v52))
 (.l))
 (.m 65467 [v86,j 2] (v56) (.o 61976 [v80,j 2] (v53))
 (.l))]
def zxa:Ent:=[.m 46823 [v48,v92] (v10) (.o 36034 [v52,v92] (v11))
 (.o 55271 [v53,v92] (v13))]
def zvf:Ent:=[.m 62507 [zjv,v96,v90,j 0] (j 0) (.o 44889 [zjv,v97,v90,j 1] (j 0))
 (.l)]
def zxc:Ent:=[.o 7939 [.vsl true 1 [v0,v0,v0],.fn (.f 60) [] []] (.fsl false 1 1 [j 0])]
def zrU:Ent:=[.m 44889 [zjv,v97,v90,j 1] (v86) (.o 24084 [zjv,v95,v87,j 0] (v63))
 (.o 62507 [zjv,v96,v90,j 0] (v58))]
def zrF:Ent:=[.o 4689 [zxY,.fn (.f 115) [] []] (.fsl false 1 1 [j 0])]
def k13:List (Nat×Ent):=[(16,zwg),(17,zx4),(18,zuV),(22,zu8),(25,zuK),(27,zvw),(55,zyk),(56,zxa),(66,zvf),(77,zxc),(116,zrU),(120,zrF)]
theorem zDs:za1 prog lib T6 k13=true:=by decide+kernel
def t7:Tr Ent:=(.n 55 zyk (.n 22 zu8 (.n 17 zx4 (.n 16 zwg .l .l) (.n 18 zuV .l .l)) (.n 27 zvw (.n 25 zuK .l .l) .l)) (.n 77 zxc (.n 66 zvf (.n 56 zxa .l .l) .l) (.n 120 zrF (.n 116 zrU .l .l) .l)))
def T7:List (Tr Ent):=t7::T6
theorem zGQ {Λ:Link} (hΛ:zaz Λ) (hp:Λ.prog=prog) (hl:Λ.lib=lib):AllT Λ T7:=by
 have h:=zH7 hΛ hp hl;have c13:=za3 hΛ hp hl h zDs;exact AllT.cons (aN (c13 6 rfl) (aN (c13 3 rfl) (aN (c13 1 rfl) (aN (c13 0 rfl) aL aL) (aN (c13 2 rfl) aL aL)) (aN (c13 5 rfl) (aN (c13 4 rfl) aL aL) aL)) (aN (c13 9 rfl) (aN (c13 8 rfl) (aN (c13 7 rfl) aL aL) aL) (aN (c13 11 rfl) (aN (c13 10 rfl) aL aL) aL))) h
def zwy:Ent:=[.m 60666 [v92,v89] (zzK) (.o 44523 [v92,v88] (.tup [v2,j 0]))
 (.l)]
def zvs:Ent:=[.m 62507 [zjv,v96,v90,j 0] (v13) (.o 44889 [zjv,v97,v90,j 1] (v10))
 (.l)]
def zus:Ent:=[.o 45200 [zxY] (j 0)]
def zxI:Ent:=[.o 45043 [zxY,v95,v87,j 0,j 4] (.fsl false 4 4 [j 1,.nils,j 2,.nils,j 0,.nils,j 1,.nils,j 0,.nils,j 1,.nils,j 0,.nils,j 1,.nils])]
def k14:List (Nat×Ent):=[(19,zwy),(67,zvs),(76,zus),(82,zxI)]
theorem zCZ:za1 prog lib T7 k14=true:=by decide+kernel
def t8:Tr Ent:=(.n 76 zus (.n 67 zvs (.n 19 zwy .l .l) .l) (.n 82 zxI .l .l))
def T8:List (Tr Ent):=t8::T7
theorem zGA {Λ:Link} (hΛ:zaz Λ) (hp:Λ.prog=prog) (hl:Λ.lib=lib):AllT Λ T8:=by
 have h:=zGQ hΛ hp hl;have c14:=za3 hΛ hp hl h zCZ;exact AllT.cons (aN (c14 2 rfl) (aN (c14 1 rfl) (aN (c14 0 rfl) aL aL) aL) (aN (c14 3 rfl) aL aL)) h
def zut:Ent:=[.m 62507 [zjv,v96,v90,j 0] (.tup [v2,j 0]) (.o 44889 [zjv,v97,v90,j 1] (zzK))
 (.l)]
def zxv:Ent:=[.o 27996 [zxY,.vsl true 1 [v0,v0,v0],zD5,j 0] (.tup [.fsl false 1 1 [v94],j 0])]
def k15:List (Nat×Ent):=[(24,zut),(26,zxv)]
theorem zDA:za1 prog lib T8 k15=true:=by decide+kernel
def t9:Tr Ent:=(.n 26 zxv (.n 24 zut .l .l) .l)
def T9:List (Tr Ent):=t9::T8
theorem zHP {Λ:Link} (hΛ:zaz Λ) (hp:Λ.prog=prog) (hl:Λ.lib=lib):AllT Λ T9:=by
 have h:=zGA hΛ hp hl;have c15:=za3 hΛ hp hl h zDA;exact AllT.cons (aN (c15 1 rfl) (aN (c15 0 rfl) aL aL) aL) h
def zCz:Ent:=[.o 7 [] (.bool true)]
def k16:List (Nat×Ent):=[(1,zCz)]
theorem zDr:za1 prog lib T9 k16=true:=by decide+kernel
def t10:Tr Ent:=(.n 1 zCz .l .l)
def T10:List (Tr Ent):=t10::T9
theorem zEL {Λ:Link} (hΛ:zaz Λ) (hp:Λ.prog=prog) (hl:Λ.lib=lib):AllT Λ T10:=by
 have h:=zHP hΛ hp hl;have c16:=za3 hΛ hp hl h zDr;exact AllT.cons (aN (c16 0 rfl) aL aL) h
theorem holds {Λ:Link} (hΛ:zaz Λ) (hp:Λ.prog=prog) (hl:Λ.lib=lib):PureC Λ 1 [] (.bool true):=Tr.all_find (zEL hΛ hp hl t10 (.head _)) (i:=1) rfl _ _ ⟨_,.head _,.inl rfl⟩
end VK1
end VE
