import Derived.Test.YteioemjpepbdgaaGreatDoorTables
import Derived.Test.YteioemjpepbdgaaGreatDoorMemo
set_option linter.all false
set_option maxRecDepth 100000
namespace VE
namespace VK1
def T0 : List (Tr Ent) := []
theorem T0_ok {Λ : Link} (_hΛ : LinkOk Λ) (_hp : Λ.prog = prog) (_hl : Λ.lib = lib) : AllT Λ T0 := AllT.nil
abbrev j (n : Int) : AV := .int .i64 n
abbrev u (n : Nat) : AV := .int .u64 n
def w (l : List Nat) : AV := .vsl true l.length (l.map u)
def v0 : AV := .str [48]
def v1 : AV := .str [51,47,50]
def v2 : AV := .str [49,47,50]
def v3 : AV := .str [49,47,50,52]
def v4 : AV := .str [49]
def v5 : AV := .str [49,47,49,48]
def v6 : AV := .vsl true 2 [j 0,j 1]
def v7 : AV := .vsl true 2 [j 2,j 3]
def v8 : AV := .vsl true 3 [j 0,j 0,j 0]
def v9 : AV := .vsl true 4 [j 0,j 0,j 0,j 0]
def v10 : AV := .agg [j 3,.nils,j 2,.nils]
def v11 : AV := .agg [j 1,.nils,j 1,.nils]
def v12 : AV := .agg [j 0,.nils,j 1,.nils]
def v13 : AV := .agg [j 1,.nils,j 2,.nils]
def v14 : AV := .agg [j 1,.nils,j 24,.nils]
def v15 : AV := .agg [j 5,.nils,j 4,.nils]
def v16 : AV := .vsl true 2 [j 3,j 2]
def v17 : AV := .vsl true 2 [j 1,j 2]
def v18 : AV := .vsl true 2 [j 1,j 0]
def v19 : AV := .vsl true 2 [j 2,j 4]
def v20 : AV := .str [49,48]
def v21 : AV := .str [53]
def v22 : AV := .agg [j 1,.nils]
def v23 : AV := .agg [j 3,.nils]
def v24 : AV := .agg [j 6,.nils]
def v25 : AV := .agg [j 2,.nils]
def v26 : AV := .agg [j 0,.nils]
def v27 : AV := .agg [j 4,.nils]
def v28 : AV := .agg [j 5,.nils]
def v29 : AV := .agg [j 14,.nils]
def v30 : AV := .agg [j 10,.nils]
def v31 : AV := .agg [j 8,.nils]
def v32 : AV := .agg [j (-1),.nils]
def v33 : AV := .agg [j 12,.nils]
def v34 : AV := .agg [j 9,.nils]
def v35 : AV := .agg [j 16,.nils]
def v36 : AV := .agg [j 96,.nils]
def v37 : AV := .agg [j 100,.nils]
def v38 : AV := .agg [j 24,.nils]
def v39 : AV := .agg [j (-2),.nils]
def v40 : AV := .agg [j 3,.nils,j 1,.nils]
def v41 : AV := .vsl true 5 [j 1,j 1,j 1,j 1,j 1]
def v42 : AV := .agg [j 2,.nils,j 1,.nils]
def v43 : AV := .agg [j 5,.nils,j 1,.nils]
def v44 : AV := .agg [j 10,.nils,j 1,.nils]
def v45 : AV := .agg [j 8,.nils,j 1,.nils]
def v46 : AV := .agg [j 12,.nils,j 1,.nils]
def v47 : AV := .agg [j (-1),.nils,j 1,.nils]
def v48 : AV := .agg [j 0,j 0,j 1,.nils,j 2,.nils,j 1,.nils,j 2,.nils]
def v49 : AV := .tup [j 1,j 0]
def v50 : AV := .tup [j 0,j 0]
def v51 : AV := .agg [j 0,j 0,j 0,.nils,j 1,.nils,j 0,.nils,j 1,.nils]
def v52 : AV := .agg [j 0,j 0,j 0,.nils,j 1,.nils,j 1,.nils,j 2,.nils]
def v53 : AV := .agg [j 1,j 0,j 1,.nils,j 2,.nils,j 0,.nils,j 1,.nils]
def v54 : AV := .tup [j 1,j 1]
def v55 : AV := .tup [j 0,j 1]
def v56 : AV := .agg [j 1,j 1,j 0,.nils,j 1,.nils,j 0,.nils,j 1,.nils]
def v57 : AV := .agg [j 1,.nils,j 2,.nils,j 1,.nils,j 1,.nils]
def v58 : AV := .agg [j 0,.nils,j 1,.nils,j 1,.nils,j 2,.nils]
def v59 : AV := .agg [j 1,.nils,j 24,.nils,j 0,.nils,j 1,.nils]
def v60 : AV := .vsl false 2 [j 1,.nils,j 1,.nils,j 1,.nils,j 1,.nils]
def v61 : AV := .vsl false 4 [j 1,.nils,j 2,.nils,j 0,.nils,j 1,.nils,j 0,.nils,j 1,.nils,j 0,.nils,j 1,.nils]
def v62 : AV := .vsl true 3 [j 0,j 1,j 0]
def v63 : AV := .agg [j 0,.nils,j 1,.nils,j 0,.nils,j 1,.nils]
def v64 : AV := .agg [j 1,.nils,j 3,.nils]
def v65 : AV := .agg [j 1,.nils,j 4,.nils]
def v66 : AV := .agg [j 3,.nils,j 4,.nils]
def v67 : AV := .agg [j 7,.nils,j 2,.nils]
def v68 : AV := .agg [j 9,.nils,j 4,.nils]
def v69 : AV := .agg [j 1,.nils,j 8,.nils]
def v70 : AV := .agg [j 1,.nils,j 10,.nils]
def v71 : AV := .agg [j 1,.nils,j 12,.nils]
def v72 : AV := .vsl false 1 [j 1,.nils,j 1,.nils]
def v73 : AV := .vsl true 1 [j 1,.nils,j 1,.nils]
def v74 : AV := .vsl true 2 [j 1,.nils,j 1,.nils,j 1,.nils,j 1,.nils]
def v75 : AV := .agg [j 6,.nils,j 1,.nils]
def v76 : AV := .agg [j 4,.nils,j 1,.nils]
def v77 : AV := .agg [j 14,.nils,j 1,.nils]
def v78 : AV := .agg [j 1,.nils,j 1,.nils,j 0,.nils,j 1,.nils]
def v79 : AV := .agg [j 1,.nils,j 1,.nils,j 0,.nils,j 1,.nils,j 0,.nils,j 1,.nils,j 0,.nils,j 1,.nils]
def v80 : AV := .agg [j 3,.nils,j 2,.nils,j 0,.nils,j 1,.nils]
def v81 : AV := .agg [j 1,.nils,j 2,.nils,j 0,.nils,j 1,.nils]
def v82 : AV := .agg [j 1,.nils,j 2,.nils,j 1,.nils,j 2,.nils]
def v83 : AV := .agg [j 0,.nils,j 1,.nils,j 1,.nils,j 1,.nils]
def v84 : AV := .agg [j 1,.nils,j 10,.nils,j 0,.nils,j 1,.nils]
def v85 : AV := .vsl false 1 [j 3,.nils,j 1,.nils]
def v86 : AV := .agg [j 1,.nils,j 1,.nils,j 1,.nils,j 1,.nils]
def v87 : AV := .agg [v0,v0]
def v88 : AV := .agg [v1,v0]
def v89 : AV := .agg [v2,v2]
def v90 : AV := .agg [v0,v4]
def v91 : AV := .agg [v4,v0]
def v92 : AV := .vsl true 2 [v6,v7]
def v93 : AV := .vsl true 2 [v4,v4]
def v94 : AV := .vsl true 4 [v2,v0,v0,v0]
def v95 : AV := .agg [v0,v0,v0]
def v96 : AV := .agg [v0,v0,v20]
def v97 : AV := .agg [v5,v0,v0]
def v98 : AV := .tup [v26,v26]
def v99 : AV := .tup [v22,v26]
def v100 : AV := .tup [v25,v26]
def v101 : AV := .tup [v26,v22]
def v102 : AV := .vsl true 2 [v19,v19]
def v103 : AV := .vsl true 2 [v18,v16]
def v104 : AV := .vsl true 2 [v17,v17]
def v105 : AV := .vsl true 3 [v62,v62,v8]
def v106 : AV := .tup [v1,j 0]
def v107 : AV := .vsl true 1 [.str [51]]
def v108 : AV := .vsl true 1 [v0,v0]
def v109 : AV := .agg [v92,v21,v4,v2,v0,v0,v2,v0]
def v110 : AV := .vsl true 1 [v92,v21,v4,v2,v0,v0,v2,v0]
def v111 : AV := .vsl true 1 [v93]
def e0_14 : Ent := [.m 40535 [v0,v0] (v87) (.m 17893 [v1,v0] (v88) (.m 17891 [v2,v0] (.agg [v2,v0]) (.o 9861 [v3,v0] (.agg [v3,v0]))
  (.l))
  (.m 24930 [v2,v2] (v89) (.o 18154 [v2,v4] (.agg [v2,v4]))
  (.l)))
  (.m 47574 [v0,v2] (.agg [v0,v2]) (.m 40798 [v0,v4] (v90) (.o 40536 [v4,v0] (v91))
  (.l))
  (.o 56238 [v5,v0] (.agg [v5,v0])))]
def e0_15 : Ent := [.o 7 [] (v92)]
def e0_29 : Ent := [.m 51556 [v93,v93] (.bool true) (.o 30452 [v94,v94] (.bool true))
  (.l)]
def e0_31 : Ent := [.m 28694 [.bool false,j 12] (j 0) (.m 26327 [.bool false,j 3] (j 0) (.o 26064 [.bool false,j 2] (j 0))
  (.o 26853 [.bool false,j 5] (j 0)))
  (.m 33691 [.bool false,j 31] (j 0) (.o 28957 [.bool false,j 13] (j 0))
  (.l))]
def e0_33 : Ent := [.m 34670 [v8] (j 0) (.m 9480 [.vsl true 6 [j 0,j 0,j 0,j 0,j 0,j 0]] (j 0) (.o 3683 [.vsl false 1 [j 0]] (j 0))
  (.o 27379 [.vsl true 2 [j 0,j 0]] (j 0)))
  (.m 51832 [v9] (j 0) (.o 44227 [.vsl true 5 [j 0,j 0,j 0,j 0,j 0]] (j 0))
  (.l)),
  .o 44227 [.vsl false 5 [j 0,j 0,j 0,j 0,j 0]] (j 0)]
def e0_38 : Ent := [.m 25801 [j 2,j 1] (j 3) (.m 25800 [j 1,j 1] (j 2) (.o 25799 [j 0,j 1] (j 1))
  (.l))
  (.m 25803 [j 4,j 1] (j 5) (.o 25802 [j 3,j 1] (j 4))
  (.l))]
def e0_44 : Ent := [.m 51329 [j 0,j 1,.vptr [v92]] (j 2) (.m 51067 [j 1,j 0,.vptr [v92]] (j 1) (.o 51066 [j 0,j 0,.vptr [v92]] (j 0))
  (.l))
  (.o 51330 [j 1,j 1,.vptr [v92]] (j 3))]
def e0_46 : Ent := [.m 9008 [v10] (v1) (.m 5358 [v11] (v4) (.o 5357 [v12] (v0))
  (.o 9006 [v13] (v2)))
  (.m 23741 [v14] (v3) (.o 16306 [v15] (.str [53,47,52]))
  (.l))]
def e0_47 : Ent := [.m 51329 [j 0,j 1,.vptr [v92]] (j 2) (.m 51067 [j 1,j 0,.vptr [v92]] (j 1) (.o 51066 [j 0,j 0,.vptr [v92]] (j 0))
  (.l))
  (.o 51330 [j 1,j 1,.vptr [v92]] (j 3))]
def e0_48 : Ent := [.m 51329 [j 0,j 1,.vptr [v92]] (j 4) (.m 51067 [j 1,j 0,.vptr [v92]] (j 1) (.o 51066 [j 0,j 0,.vptr [v92]] (j 0))
  (.l))
  (.o 51330 [j 1,j 1,.vptr [v92]] (j 9))]
def e0_59 : Ent := [.m 27519 [v16,v16] (.bool true) (.m 26991 [v17,v17] (.bool true) (.o 19169 [v18,v18] (.bool true))
  (.l))
  (.o 35077 [v19,v19] (.bool true))]
def e0_68 : Ent := [.m 48449 [v95] (.bool true) (.o 46691 [v96] (.bool false))
  (.o 64152 [v97] (.bool true))]
def e0_80 : Ent := [.o 45199 [v109] (j 4)]
def e0_81 : Ent := [.o 26588 [j 0,j 4] (j 4)]
def e0_94 : Ent := [.m 26852 [j 1,.vptr [j 1000]] (.bool false) (.o 26851 [j 0,.vptr [j 1000]] (.bool false))
  (.l)]
def k0 : List (Nat × Ent) := [(14,e0_14),(15,e0_15),(29,e0_29),(31,e0_31),(33,e0_33),(38,e0_38),(44,e0_44),(46,e0_46),(47,e0_47),(48,e0_48),(59,e0_59),(68,e0_68),(80,e0_80),(81,e0_81),(94,e0_94)]
theorem k0_ok : chunkOk prog lib T0 k0 = true := by decide +kernel
def e1_94 : Ent := [.m 26853 [j 2,.vptr [j 1000]] (.bool false) (.m 26852 [j 1,.vptr [j 100]] (.bool false) (.o 26851 [j 0,.vptr [j 100]] (.bool false))
  (.l))
  (.m 26855 [j 4,.vptr [j 1000]] (.bool false) (.o 26854 [j 3,.vptr [j 1000]] (.bool false))
  (.l))]
def e1_96 : Ent := [.m 1844 [j 3] (.fn (.f 133) [] [.vptr [j 3]]) (.o 1843 [j 2] (.fn (.f 133) [] [.vptr [j 2]]))
  (.l)]
def e1_100 : Ent := [.m 38722 [v22,v23] (v23) (.m 38201 [v24,v22] (v24) (.m 38196 [v22,v22] (v22) (.m 37934 [v25,v26] (v26) (.m 37933 [v22,v26] (v26) (.o 37932 [v26,v26] (v26))
  (.l))
  (.o 38195 [v26,v22] (v26)))
  (.m 38199 [v27,v22] (v27) (.m 38198 [v23,v22] (v23) (.o 38197 [v25,v22] (v25))
  (.l))
  (.o 38200 [v28,v22] (v28))))
  (.m 38460 [v25,v25] (v27) (.m 38458 [v26,v25] (v26) (.m 38209 [v29,v22] (v29) (.o 38205 [v30,v22] (v30))
  (.l))
  (.o 38459 [v22,v25] (v25)))
  (.m 38474 [.agg [j (-9),.nils],v25] (.agg [j (-18),.nils]) (.o 38462 [v27,v25] (v31))
  (.o 38721 [v26,v23] (v26)))))
  (.m 40036 [v32,v31] (.agg [j (-8),.nils]) (.m 38987 [v23,v27] (v33) (.m 38985 [v22,v27] (v27) (.m 38984 [v26,v27] (v26) (.o 38724 [v23,v23] (v34))
  (.l))
  (.o 38986 [v25,v27] (v31)))
  (.m 39247 [v26,v28] (v26) (.m 38991 [.agg [j 7,.nils],v27] (.agg [j 28,.nils]) (.o 38988 [v27,v27] (v35))
  (.l))
  (.o 39248 [v22,v28] (v28))))
  (.m 41096 [v31,v33] (v36) (.m 40572 [v30,v30] (v37) (.m 40563 [v22,v30] (v30) (.o 40562 [v26,v30] (v26))
  (.l))
  (.o 41089 [v22,v33] (v33)))
  (.m 64232 [v26,v37] (v26) (.o 44245 [v22,v38] (v38))
  (.o 64233 [v22,v37] (v37))))),
  .m 38458 [v32,v25] (v39) (.o 38195 [v32,v22] (v32))
  (.l)]
def e1_101 : Ent := [.m 38196 [v22,v22] (v11) (.o 38195 [v26,v22] (v12))
  (.o 38198 [v23,v22] (v40))]
def e1_118 : Ent := [.m 40564 [v25,v30] (j (-1)) (.o 38196 [v22,v22] (j 0))
  (.o 40567 [v28,v30] (j (-1)))]
def e1_119 : Ent := [.m 38458 [v26,v25] (v25) (.m 37934 [v25,v32] (v22) (.m 37933 [v22,v26] (v22) (.o 37932 [v26,v26] (v26))
  (.l))
  (.o 38195 [v26,v22] (v22)))
  (.m 41100 [v33,v33] (v38) (.o 38986 [v25,v27] (v24))
  (.o 46902 [.agg [j 28,.nils],.agg [j (-18),.nils]] (v30)))]
def k1 : List (Nat × Ent) := [(94,e1_94),(96,e1_96),(100,e1_100),(101,e1_101),(118,e1_118),(119,e1_119)]
theorem k1_ok : chunkOk prog lib T0 k1 = true := by decide +kernel
def e2_119 : Ent := [.m 38468 [v30,v39] (v31) (.m 38197 [v25,v22] (v23) (.m 37935 [v23,v26] (v23) (.o 37933 [v22,v32] (v26))
  (.o 38196 [v22,v22] (v25)))
  (.m 38461 [v23,v39] (v22) (.o 38460 [v25,v25] (v27))
  (.l)))
  (.m 39247 [v26,v28] (v28) (.m 38984 [v26,v27] (v27) (.o 38721 [v26,v23] (v23))
  (.l))
  (.m 41626 [v33,.agg [j (-8),.nils]] (v27) (.o 40562 [v26,v30] (v30))
  (.l))),
  .o 38468 [v30,v25] (v33)]
def e2_124 : Ent := [.m 26590 [.bool false,j 4] (j 0) (.m 26064 [.bool false,j 2] (j 0) (.o 25801 [.bool false,j 1] (j 0))
  (.l))
  (.m 28694 [.bool false,j 12] (j 0) (.o 26853 [.bool false,j 5] (j 0))
  (.l))]
def e2_125 : Ent := [.m 51832 [v9] (j 0) (.o 27379 [.vsl true 2 [j 0,j 0]] (j 0))
  (.l)]
def e2_129 : Ent := [.m 2149 [.str [51]] (.bool true) (.m 2147 [v4] (.bool true) (.o 2146 [v0] (.bool true))
  (.o 2148 [.str [50]] (.bool true)))
  (.m 2151 [v21] (.bool true) (.o 2150 [.str [52]] (.bool true))
  (.o 14754 [v20] (.bool true)))]
def e2_134 : Ent := [.m 26063 [j 1,j 2] (j 1) (.o 26062 [j 0,j 2] (j 0))
  (.o 26064 [j 2,j 2] (j 0)),
  .o 26062 [j (-1),j 2] (j 1)]
def e2_151 : Ent := [.m 28694 [v25] (.bool false) (.m 28693 [v22] (.bool false) (.o 28692 [v26] (.bool false))
  (.l))
  (.m 28716 [v38] (.bool false) (.o 28695 [v23] (.bool false))
  (.l))]
def e2_164 : Ent := [.m 38468 [v30,v25] (.tup [v28,v26]) (.m 38458 [v26,v25] (v98) (.m 38198 [v23,v22] (.tup [v23,v26]) (.m 38196 [v22,v22] (v99) (.o 38195 [v26,v22] (v98))
  (.o 38197 [v25,v22] (v100)))
  (.m 38204 [v34,v22] (.tup [v34,v26]) (.o 38199 [v27,v22] (.tup [v27,v26]))
  (.l)))
  (.m 38462 [v27,v25] (v100) (.m 38460 [v25,v25] (v99) (.o 38459 [v22,v25] (v101))
  (.l))
  (.m 38466 [v31,v25] (.tup [v27,v26]) (.o 38464 [v24,v25] (.tup [v23,v26]))
  (.l))))
  (.m 38987 [v23,v27] (.tup [v26,v23]) (.m 38984 [v26,v27] (v98) (.m 38725 [v27,v23] (.tup [v22,v22]) (.o 38472 [v29,v25] (.tup [.agg [j 7,.nils],v26]))
  (.l))
  (.m 38986 [v25,v27] (.tup [v26,v25]) (.o 38985 [v22,v27] (v101))
  (.l)))
  (.m 38993 [v34,v27] (.tup [v25,v22]) (.m 38990 [v24,v27] (.tup [v22,v25]) (.o 38988 [v27,v27] (v99))
  (.l))
  (.m 40046 [v30,v31] (.tup [v22,v25]) (.o 38998 [v29,v27] (.tup [v23,v25]))
  (.l))))]
def k2 : List (Nat × Ent) := [(119,e2_119),(124,e2_124),(125,e2_125),(129,e2_129),(134,e2_134),(151,e2_151),(164,e2_164)]
theorem k2_ok : chunkOk prog lib T0 k2 = true := by decide +kernel
def e3_164 : Ent := [.m 40037 [v22,v31] (v101) (.m 38722 [v22,v23] (v101) (.m 38207 [v33,v22] (.tup [v33,v26]) (.m 38205 [v30,v22] (.tup [v30,v26]) (.o 38203 [v31,v22] (.tup [v31,v26]))
  (.l))
  (.m 38461 [v23,v25] (.tup [v22,v22]) (.o 38219 [v38,v22] (.tup [v38,v26]))
  (.l)))
  (.m 39252 [v28,v28] (v99) (.m 39080 [v36,v27] (.tup [v38,v26]) (.o 38724 [v23,v23] (v99))
  (.l))
  (.m 39518 [v31,v24] (.tup [v22,v25]) (.o 39257 [v30,v28] (v100))
  (.l))))
  (.m 41089 [v22,v33] (v101) (.m 40060 [v38,v31] (.tup [v23,v26]) (.m 40052 [v35,v31] (v100) (.o 40042 [v24,v31] (.tup [v26,v24]))
  (.l))
  (.m 40567 [v28,v30] (.tup [v26,v28]) (.o 40563 [v22,v30] (v101))
  (.l)))
  (.m 44245 [v22,v38] (v101) (.m 44244 [v26,v38] (v98) (.o 42164 [v38,v35] (.tup [v22,v31]))
  (.l))
  (.m 63184 [v27,v36] (.tup [v26,v27]) (.o 44268 [v38,v38] (v99))
  (.l))))]
def k3 : List (Nat × Ent) := [(164,e3_164)]
theorem k3_ok : chunkOk prog lib T0 k3 = true := by decide +kernel
def t1 : Tr Ent := (.n 81 e0_81 (.n 44 e0_44 (.n 31 e0_31 (.n 15 e0_15 (.n 14 e0_14 .l .l) (.n 29 e0_29 .l .l)) (.n 38 e0_38 (.n 33 e0_33 .l .l) .l)) (.n 59 e0_59 (.n 47 e0_47 (.n 46 e0_46 .l .l) (.n 48 e0_48 .l .l)) (.n 80 e0_80 (.n 68 e0_68 .l .l) .l))) (.n 124 e2_124 (.n 101 e1_101 (.n 96 e1_96 (.n 94 (e0_94 ++ e1_94) .l .l) (.n 100 e1_100 .l .l)) (.n 119 (e1_119 ++ e2_119) (.n 118 e1_118 .l .l) .l)) (.n 134 e2_134 (.n 129 e2_129 (.n 125 e2_125 .l .l) .l) (.n 164 (e2_164 ++ e3_164) (.n 151 e2_151 .l .l) .l))))
def T1 : List (Tr Ent) := t1 :: T0
theorem T1_ok {Λ : Link} (hΛ : LinkOk Λ) (hp : Λ.prog = prog) (hl : Λ.lib = lib) : AllT Λ T1 := by
  have h := T0_ok hΛ hp hl
  have c0 := chunk_at hΛ hp hl h k0_ok
  have c1 := chunk_at hΛ hp hl h k1_ok
  have c2 := chunk_at hΛ hp hl h k2_ok
  have c3 := chunk_at hΛ hp hl h k3_ok
  exact AllT.cons (Tr.all_n (c0 _ _ (.tail _ (.tail _ (.tail _ (.tail _ (.tail _ (.tail _ (.tail _ (.tail _ (.tail _ (.tail _ (.tail _ (.tail _ (.tail _ (.head _))))))))))))))) (Tr.all_n (c0 _ _ (.tail _ (.tail _ (.tail _ (.tail _ (.tail _ (.tail _ (.head _)))))))) (Tr.all_n (c0 _ _ (.tail _ (.tail _ (.tail _ (.head _))))) (Tr.all_n (c0 _ _ (.tail _ (.head _))) (Tr.all_n (c0 _ _ (.head _)) Tr.all_l Tr.all_l) (Tr.all_n (c0 _ _ (.tail _ (.tail _ (.head _)))) Tr.all_l Tr.all_l)) (Tr.all_n (c0 _ _ (.tail _ (.tail _ (.tail _ (.tail _ (.tail _ (.head _))))))) (Tr.all_n (c0 _ _ (.tail _ (.tail _ (.tail _ (.tail _ (.head _)))))) Tr.all_l Tr.all_l) Tr.all_l)) (Tr.all_n (c0 _ _ (.tail _ (.tail _ (.tail _ (.tail _ (.tail _ (.tail _ (.tail _ (.tail _ (.tail _ (.tail _ (.head _)))))))))))) (Tr.all_n (c0 _ _ (.tail _ (.tail _ (.tail _ (.tail _ (.tail _ (.tail _ (.tail _ (.tail _ (.head _)))))))))) (Tr.all_n (c0 _ _ (.tail _ (.tail _ (.tail _ (.tail _ (.tail _ (.tail _ (.tail _ (.head _))))))))) Tr.all_l Tr.all_l) (Tr.all_n (c0 _ _ (.tail _ (.tail _ (.tail _ (.tail _ (.tail _ (.tail _ (.tail _ (.tail _ (.tail _ (.head _))))))))))) Tr.all_l Tr.all_l)) (Tr.all_n (c0 _ _ (.tail _ (.tail _ (.tail _ (.tail _ (.tail _ (.tail _ (.tail _ (.tail _ (.tail _ (.tail _ (.tail _ (.tail _ (.head _)))))))))))))) (Tr.all_n (c0 _ _ (.tail _ (.tail _ (.tail _ (.tail _ (.tail _ (.tail _ (.tail _ (.tail _ (.tail _ (.tail _ (.tail _ (.head _))))))))))))) Tr.all_l Tr.all_l) Tr.all_l))) (Tr.all_n (c2 _ _ (.tail _ (.head _))) (Tr.all_n (c1 _ _ (.tail _ (.tail _ (.tail _ (.head _))))) (Tr.all_n (c1 _ _ (.tail _ (.head _))) (Tr.all_n (.app (c0 _ _ (.tail _ (.tail _ (.tail _ (.tail _ (.tail _ (.tail _ (.tail _ (.tail _ (.tail _ (.tail _ (.tail _ (.tail _ (.tail _ (.tail _ (.head _)))))))))))))))) (c1 _ _ (.head _))) Tr.all_l Tr.all_l) (Tr.all_n (c1 _ _ (.tail _ (.tail _ (.head _)))) Tr.all_l Tr.all_l)) (Tr.all_n (.app (c1 _ _ (.tail _ (.tail _ (.tail _ (.tail _ (.tail _ (.head _))))))) (c2 _ _ (.head _))) (Tr.all_n (c1 _ _ (.tail _ (.tail _ (.tail _ (.tail _ (.head _)))))) Tr.all_l Tr.all_l) Tr.all_l)) (Tr.all_n (c2 _ _ (.tail _ (.tail _ (.tail _ (.tail _ (.head _)))))) (Tr.all_n (c2 _ _ (.tail _ (.tail _ (.tail _ (.head _))))) (Tr.all_n (c2 _ _ (.tail _ (.tail _ (.head _)))) Tr.all_l Tr.all_l) Tr.all_l) (Tr.all_n (.app (c2 _ _ (.tail _ (.tail _ (.tail _ (.tail _ (.tail _ (.tail _ (.head _)))))))) (c3 _ _ (.head _))) (Tr.all_n (c2 _ _ (.tail _ (.tail _ (.tail _ (.tail _ (.tail _ (.head _))))))) Tr.all_l Tr.all_l) Tr.all_l)))) h
def e4_21 : Ent := [.m 47931 [v102,v102] (.bool true) (.o 9899 [v103,v103] (.bool true))
  (.l),
  .o 9899 [v104,v104] (.bool true)]
def e4_23 : Ent := [.o 7 [] (v109)]
def e4_28 : Ent := [.o 58093 [.vsl false 1 [v94],.vsl true 1 [v94]] (.bool true)]
def e4_34 : Ent := [.m 43068 [j 1,j 1,j 2147483646] (j 0) (.m 25938 [j 2,j 1,j 16] (j 0) (.o 11651 [j 1,j 0,j 1000] (j 0))
  (.l))
  (.m 55041 [j 1,j (-999999999),j 999999999] (j 0) (.o 55040 [j 0,j (-999999999),j 999999999] (j 0))
  (.l))]
def e4_37 : Ent := [.m 25649 [j 0,v41,.fn (.f 38) [] []] (j 5) (.o 12396 [j 0,.vsl false 1 [j 4],.fn (.f 81) [] []] (j 4))
  (.l)]
def e4_49 : Ent := [.m 36730 [v11,v11] (v11) (.m 36468 [v42,v12] (v12) (.m 36467 [v11,v12] (v12) (.o 36466 [v12,v12] (v12))
  (.l))
  (.o 36729 [v12,v11] (v12)))
  (.m 37256 [v11,v40] (v40) (.m 37255 [v12,v40] (v12) (.o 36992 [v12,v42] (v12))
  (.l))
  (.o 37781 [v12,v43] (v12)))]
def e4_63 : Ent := [.m 31055 [v97,v43] (.bool true) (.o 15352 [v95,v43] (.bool true))
  (.l)]
def e4_71 : Ent := [.m 39101 [v43,v44] (j (-1)) (.o 39098 [v42,v44] (j (-1)))
  (.l)]
def e4_74 : Ent := [.m 36730 [v11,v11] (v42) (.m 36469 [v40,v12] (v40) (.m 36467 [v11,v12] (v11) (.o 36466 [v12,v12] (v12))
  (.l))
  (.o 36729 [v12,v11] (v11)))
  (.m 37002 [v44,.agg [j (-2),.nils,j 1,.nils]] (v45) (.o 36731 [v42,v11] (v40))
  (.o 37255 [v12,v40] (v40))),
  .m 37002 [v44,v42] (v46) (.o 36467 [v11,v47] (v12))
  (.l)]
def e4_79 : Ent := [.o 4689 [v110,.fn (.f 80) [] []] (.fsl false 1 1 [j 4])]
def e4_86 : Ent := [.m 2150 [.str [52]] (j 0) (.m 2147 [v4] (j 0) (.o 2146 [v0] (j 0))
  (.o 2149 [.str [51]] (j 0)))
  (.m 14754 [v20] (j 0) (.o 2151 [v21] (j 0))
  (.l))]
def e4_97 : Ent := [.m 5504 [v92,j 1,j 2] (j 1) (.m 2119 [v92,j 2,j 1] (j 2) (.m 1856 [v92,j 1,j 1] (j 3) (.o 1593 [v92,j (-1),j 1] (j 3))
  (.l))
  (.o 5241 [v92,j (-1),j 2] (j 1)))
  (.m 63729 [v92,j 1,j 0] (j 1) (.m 63466 [v92,j (-1),j 0] (j 1) (.o 5767 [v92,j 2,j 2] (j 0))
  (.l))
  (.o 63992 [v92,j 2,j 0] (j 0))),
  .m 63466 [v92,j 0,j 0] (j 0) (.m 5241 [v92,j 0,j 2] (j 0) (.o 1593 [v92,j 0,j 1] (j 2))
  (.l))
  (.m 63992 [v92,j 2,j (-1)] (j 2) (.o 63729 [v92,j 1,j (-1)] (j 3))
  (.l)),
  .o 63466 [v92,j (-1),j (-1)] (j 3),
  .o 63466 [v92,j 0,j (-1)] (j 2)]
def e4_105 : Ent := [.m 62435 [v48,j 1,j 2] (v49) (.o 62172 [v48,j 0,j 2] (v50))
  (.l)]
def k4 : List (Nat × Ent) := [(21,e4_21),(23,e4_23),(28,e4_28),(34,e4_34),(37,e4_37),(49,e4_49),(63,e4_63),(71,e4_71),(74,e4_74),(79,e4_79),(86,e4_86),(97,e4_97),(105,e4_105)]
theorem k4_ok : chunkOk prog lib T1 k4 = true := by decide +kernel
def e5_105 : Ent := [.m 60093 [v51,j 1,j 2] (v49) (.m 51383 [v52,j 0,j 2] (v50) (.m 5625 [v53,j 2,j 2] (v54) (.m 5362 [v53,j 1,j 2] (v50) (.o 5099 [v53,j 0,j 2] (v49))
  (.l))
  (.o 5888 [v53,j 3,j 2] (v55)))
  (.m 52172 [v52,j 3,j 2] (v54) (.m 51909 [v52,j 2,j 2] (v55) (.o 51646 [v52,j 1,j 2] (v49))
  (.l))
  (.o 59830 [v51,j 0,j 2] (v50))))
  (.m 60620 [v56,j 2,j 2] (v49) (.m 60357 [v56,j 1,j 2] (v55) (.m 60356 [v51,j 2,j 2] (v55) (.o 60094 [v56,j 0,j 2] (v54))
  (.l))
  (.o 60619 [v51,j 3,j 2] (v54)))
  (.m 62698 [v48,j 2,j 2] (v55) (.o 60883 [v56,j 3,j 2] (v50))
  (.o 62961 [v48,j 3,j 2] (v54))))]
def e5_107 : Ent := [.m 9006 [v13] (.bool false) (.m 5358 [v11] (.bool false) (.o 5357 [v12] (.bool false))
  (.l))
  (.m 23741 [v14] (.bool false) (.o 9008 [v10] (.bool false))
  (.l))]
def e5_114 : Ent := [.m 44894 [v57] (.agg [v2,v4]) (.o 14255 [v58] (.agg [v0,v2]))
  (.o 52488 [v59] (.agg [v3,v0]))]
def e5_123 : Ent := [.m 41248 [v60] (.fsl true 1 2 [v4,v4]) (.o 19556 [v61] (.fsl true 1 4 [v2,v0,v0,v0]))
  (.l)]
def e5_130 : Ent := [.m 38990 [v24,v27] (v25) (.m 38724 [v23,v23] (v23) (.m 38461 [v23,v25] (v22) (.m 38459 [v22,v25] (v22) (.o 38458 [v26,v25] (v25))
  (.o 38460 [v25,v25] (v25)))
  (.m 38722 [v22,v23] (v22) (.o 38462 [v27,v25] (v25))
  (.l)))
  (.m 38986 [v25,v27] (v25) (.m 38985 [v22,v27] (v22) (.o 38984 [v26,v27] (v27))
  (.l))
  (.m 38988 [v27,v27] (v27) (.o 38987 [v23,v27] (v22))
  (.l))))
  (.m 40567 [v28,v30] (v28) (.m 40042 [v24,v31] (v25) (.m 38998 [v29,v27] (v25) (.o 38993 [v34,v27] (v22))
  (.o 40037 [v22,v31] (v22)))
  (.m 40563 [v22,v30] (v22) (.o 40046 [v30,v31] (v25))
  (.l)))
  (.m 44244 [v26,v38] (v38) (.m 42164 [v38,v35] (v31) (.o 41089 [v22,v33] (v22))
  (.l))
  (.m 63184 [v27,v36] (v27) (.o 44245 [v22,v38] (v22))
  (.l))))]
def e5_132 : Ent := [.m 53443 [v19,.fn (.f 94) [] [.vptr [j 1000]]] (j (-1)) (.m 53180 [v7,.fn (.f 94) [] [.vptr [j 1000]]] (j (-1)) (.o 52652 [v6,.fn (.f 94) [] [.vptr [j 1000]]] (j (-1)))
  (.l))
  (.m 59943 [v62,.fn (.f 94) [] [.vptr [j 100]]] (j (-1)) (.o 59680 [v8,.fn (.f 94) [] [.vptr [j 100]]] (j (-1)))
  (.l))]
def e5_149 : Ent := [.m 9006 [v13] (v26) (.o 5357 [v12] (v26))
  (.l)]
def k5 : List (Nat × Ent) := [(105,e5_105),(107,e5_107),(114,e5_114),(123,e5_123),(130,e5_130),(132,e5_132),(149,e5_149)]
theorem k5_ok : chunkOk prog lib T1 k5 = true := by decide +kernel
def e6_149 : Ent := [.m 9008 [v10] (v22) (.o 5358 [v11] (v22))
  (.l)]
def e6_155 : Ent := [.m 52923 [v30,j 2] (v37) (.o 52660 [v30,j 1] (v30))
  (.l)]
def k6 : List (Nat × Ent) := [(149,e6_149),(155,e6_155)]
theorem k6_ok : chunkOk prog lib T1 k6 = true := by decide +kernel
def t2 : Tr Ent := (.n 86 e4_86 (.n 49 e4_49 (.n 28 e4_28 (.n 23 e4_23 (.n 21 e4_21 .l .l) .l) (.n 37 e4_37 (.n 34 e4_34 .l .l) .l)) (.n 74 e4_74 (.n 71 e4_71 (.n 63 e4_63 .l .l) .l) (.n 79 e4_79 .l .l))) (.n 123 e5_123 (.n 107 e5_107 (.n 105 (e4_105 ++ e5_105) (.n 97 e4_97 .l .l) .l) (.n 114 e5_114 .l .l)) (.n 149 (e5_149 ++ e6_149) (.n 132 e5_132 (.n 130 e5_130 .l .l) .l) (.n 155 e6_155 .l .l))))
def T2 : List (Tr Ent) := t2 :: T1
theorem T2_ok {Λ : Link} (hΛ : LinkOk Λ) (hp : Λ.prog = prog) (hl : Λ.lib = lib) : AllT Λ T2 := by
  have h := T1_ok hΛ hp hl
  have c4 := chunk_at hΛ hp hl h k4_ok
  have c5 := chunk_at hΛ hp hl h k5_ok
  have c6 := chunk_at hΛ hp hl h k6_ok
  exact AllT.cons (Tr.all_n (c4 _ _ (.tail _ (.tail _ (.tail _ (.tail _ (.tail _ (.tail _ (.tail _ (.tail _ (.tail _ (.tail _ (.head _)))))))))))) (Tr.all_n (c4 _ _ (.tail _ (.tail _ (.tail _ (.tail _ (.tail _ (.head _))))))) (Tr.all_n (c4 _ _ (.tail _ (.tail _ (.head _)))) (Tr.all_n (c4 _ _ (.tail _ (.head _))) (Tr.all_n (c4 _ _ (.head _)) Tr.all_l Tr.all_l) Tr.all_l) (Tr.all_n (c4 _ _ (.tail _ (.tail _ (.tail _ (.tail _ (.head _)))))) (Tr.all_n (c4 _ _ (.tail _ (.tail _ (.tail _ (.head _))))) Tr.all_l Tr.all_l) Tr.all_l)) (Tr.all_n (c4 _ _ (.tail _ (.tail _ (.tail _ (.tail _ (.tail _ (.tail _ (.tail _ (.tail _ (.head _)))))))))) (Tr.all_n (c4 _ _ (.tail _ (.tail _ (.tail _ (.tail _ (.tail _ (.tail _ (.tail _ (.head _))))))))) (Tr.all_n (c4 _ _ (.tail _ (.tail _ (.tail _ (.tail _ (.tail _ (.tail _ (.head _)))))))) Tr.all_l Tr.all_l) Tr.all_l) (Tr.all_n (c4 _ _ (.tail _ (.tail _ (.tail _ (.tail _ (.tail _ (.tail _ (.tail _ (.tail _ (.tail _ (.head _))))))))))) Tr.all_l Tr.all_l))) (Tr.all_n (c5 _ _ (.tail _ (.tail _ (.tail _ (.head _))))) (Tr.all_n (c5 _ _ (.tail _ (.head _))) (Tr.all_n (.app (c4 _ _ (.tail _ (.tail _ (.tail _ (.tail _ (.tail _ (.tail _ (.tail _ (.tail _ (.tail _ (.tail _ (.tail _ (.tail _ (.head _)))))))))))))) (c5 _ _ (.head _))) (Tr.all_n (c4 _ _ (.tail _ (.tail _ (.tail _ (.tail _ (.tail _ (.tail _ (.tail _ (.tail _ (.tail _ (.tail _ (.tail _ (.head _))))))))))))) Tr.all_l Tr.all_l) Tr.all_l) (Tr.all_n (c5 _ _ (.tail _ (.tail _ (.head _)))) Tr.all_l Tr.all_l)) (Tr.all_n (.app (c5 _ _ (.tail _ (.tail _ (.tail _ (.tail _ (.tail _ (.tail _ (.head _)))))))) (c6 _ _ (.head _))) (Tr.all_n (c5 _ _ (.tail _ (.tail _ (.tail _ (.tail _ (.tail _ (.head _))))))) (Tr.all_n (c5 _ _ (.tail _ (.tail _ (.tail _ (.tail _ (.head _)))))) Tr.all_l Tr.all_l) Tr.all_l) (Tr.all_n (c6 _ _ (.tail _ (.head _))) Tr.all_l Tr.all_l)))) h
def e7_36 : Ent := [.o 1842 [j 1] (j 0)]
def e7_41 : Ent := [.m 45155 [j 0,j 1,.vptr [v105],.vptr [v92],.vptr [j 1]] (j 2) (.m 44893 [j 1,j 0,.vptr [v105],.vptr [v92],.vptr [j 1]] (j 4) (.o 44892 [j 0,j 0,.vptr [v105],.vptr [v92],.vptr [j 1]] (j 2))
  (.l))
  (.o 45156 [j 1,j 1,.vptr [v105],.vptr [v92],.vptr [j 1]] (j 4))]
def e7_50 : Ent := [.m 36730 [v11,v11] (v12) (.m 36467 [v11,v12] (v11) (.o 36466 [v12,v12] (v12))
  (.l))
  (.o 37002 [v44,v42] (v45))]
def e7_51 : Ent := [.m 1842 [j 1] (j 0) (.o 1841 [j 0] (j 0))
  (.l)]
def e7_52 : Ent := [.m 45155 [j 0,j 1,.vptr [v92],.vptr [j 1],.vptr [j 0]] (j 1) (.m 44893 [j 1,j 0,.vptr [v92],.vptr [j 1],.vptr [j 0]] (j 1) (.o 44892 [j 0,j 0,.vptr [v92],.vptr [j 1],.vptr [j 0]] (j 1))
  (.l))
  (.o 45156 [j 1,j 1,.vptr [v92],.vptr [j 1],.vptr [j 0]] (j 1))]
def e7_53 : Ent := [.m 42377 [v91] (j 0) (.o 42376 [v87] (j 0))
  (.o 42639 [v90] (j 0))]
def e7_57 : Ent := [.m 9008 [v10] (v106) (.o 9006 [v13] (.tup [v2,j 0]))
  (.l)]
def e7_58 : Ent := [.m 45155 [j 0,j 1,.vptr [v92],.vptr [j 1],.vptr [j 0]] (j 3) (.m 44893 [j 1,j 0,.vptr [v92],.vptr [j 1],.vptr [j 0]] (j 0) (.o 44892 [j 0,j 0,.vptr [v92],.vptr [j 1],.vptr [j 0]] (j 1))
  (.l))
  (.o 45156 [j 1,j 1,.vptr [v92],.vptr [j 1],.vptr [j 0]] (j 2))]
def e7_75 : Ent := [.m 65476 [v63,v11] (v63) (.o 1007 [v63,v43] (v63))
  (.l)]
def e7_85 : Ent := [.o 29001 [v107,.fn (.f 86) [] []] (.fsl false 1 1 [j 0])]
def e7_95 : Ent := [.m 53443 [v19,.fn (.f 94) [] [.vptr [j 1000]]] (.bool false) (.m 53180 [v7,.fn (.f 94) [] [.vptr [j 1000]]] (.bool false) (.o 52652 [v6,.fn (.f 94) [] [.vptr [j 1000]]] (.bool false))
  (.l))
  (.m 59943 [v62,.fn (.f 94) [] [.vptr [j 100]]] (.bool false) (.o 59680 [v8,.fn (.f 94) [] [.vptr [j 100]]] (.bool false))
  (.l))]
def e7_101 : Ent := [.m 38990 [v24,v27] (v10) (.m 38724 [v23,v23] (v11) (.m 38461 [v23,v25] (v10) (.m 38459 [v22,v25] (v13) (.o 38458 [v26,v25] (v12))
  (.o 38460 [v25,v25] (v11)))
  (.m 38722 [v22,v23] (v64) (.o 38462 [v27,v25] (v42))
  (.l)))
  (.m 38986 [v25,v27] (v13) (.m 38985 [v22,v27] (v65) (.o 38984 [v26,v27] (v12))
  (.l))
  (.m 38988 [v27,v27] (v11) (.o 38987 [v23,v27] (v66))
  (.l))))
  (.m 40567 [v28,v30] (v13) (.m 40042 [v24,v31] (v66) (.m 38998 [v29,v27] (v67) (.o 38993 [v34,v27] (v68))
  (.o 40037 [v22,v31] (v69)))
  (.m 40563 [v22,v30] (v70) (.o 40046 [v30,v31] (v15))
  (.l)))
  (.m 44244 [v26,v38] (v12) (.m 42164 [v38,v35] (v10) (.o 41089 [v22,v33] (v71))
  (.l))
  (.m 63184 [v27,v36] (v14) (.o 44245 [v22,v38] (v14))
  (.l))))]
def e7_106 : Ent := [.m 47498 [v12,.vsl false 4 [j 0,.nils,j 1,.nils,j 0,.nils,j 1,.nils,j 1,.nils,j 1,.nils,j 0,.nils,j 1,.nils],.fn (.f 74) [] []] (v11) (.o 20032 [v12,.vsl false 4 [j 3,.nils,j 1,.nils,j 0,.nils,j 1,.nils,j 0,.nils,j 1,.nils,j 0,.nils,j 1,.nils],.fn (.f 74) [] []] (v40))
  (.l)]
def e7_110 : Ent := [.o 2147 [v4] (v22)]
def k7 : List (Nat × Ent) := [(36,e7_36),(41,e7_41),(50,e7_50),(51,e7_51),(52,e7_52),(53,e7_53),(57,e7_57),(58,e7_58),(75,e7_75),(85,e7_85),(95,e7_95),(101,e7_101),(106,e7_106),(110,e7_110)]
theorem k7_ok : chunkOk prog lib T2 k7 = true := by decide +kernel
def e8_110 : Ent := [.m 2150 [.str [52]] (v27) (.m 2148 [.str [50]] (v25) (.o 2146 [v0] (v26))
  (.o 2149 [.str [51]] (v23)))
  (.m 14754 [v20] (v30) (.o 2151 [v21] (v28))
  (.l))]
def e8_112 : Ent := [.o 25238 [v63,v63] (v63)]
def e8_113 : Ent := [.m 44894 [v57] (.bool false) (.o 14255 [v58] (.bool false))
  (.o 52488 [v59] (.bool false))]
def e8_131 : Ent := [.m 36994 [v72,v73] (v11) (.o 11145 [v74,v74] (v42))
  (.l)]
def e8_160 : Ent := [.m 44566 [v61,.fn (.f 107) [] []] (j (-1)) (.o 737 [v60,.fn (.f 107) [] []] (j (-1)))
  (.l)]
def e8_161 : Ent := [.o 42642 [v93] (j 0)]
def k8 : List (Nat × Ent) := [(110,e8_110),(112,e8_112),(113,e8_113),(131,e8_131),(160,e8_160),(161,e8_161)]
theorem k8_ok : chunkOk prog lib T2 k8 = true := by decide +kernel
def t3 : Tr Ent := (.n 85 e7_85 (.n 52 e7_52 (.n 50 e7_50 (.n 41 e7_41 (.n 36 e7_36 .l .l) .l) (.n 51 e7_51 .l .l)) (.n 58 e7_58 (.n 57 e7_57 (.n 53 e7_53 .l .l) .l) (.n 75 e7_75 .l .l))) (.n 112 e8_112 (.n 106 e7_106 (.n 101 e7_101 (.n 95 e7_95 .l .l) .l) (.n 110 (e7_110 ++ e8_110) .l .l)) (.n 160 e8_160 (.n 131 e8_131 (.n 113 e8_113 .l .l) .l) (.n 161 e8_161 .l .l))))
def T3 : List (Tr Ent) := t3 :: T2
theorem T3_ok {Λ : Link} (hΛ : LinkOk Λ) (hp : Λ.prog = prog) (hl : Λ.lib = lib) : AllT Λ T3 := by
  have h := T2_ok hΛ hp hl
  have c7 := chunk_at hΛ hp hl h k7_ok
  have c8 := chunk_at hΛ hp hl h k8_ok
  exact AllT.cons (Tr.all_n (c7 _ _ (.tail _ (.tail _ (.tail _ (.tail _ (.tail _ (.tail _ (.tail _ (.tail _ (.tail _ (.head _))))))))))) (Tr.all_n (c7 _ _ (.tail _ (.tail _ (.tail _ (.tail _ (.head _)))))) (Tr.all_n (c7 _ _ (.tail _ (.tail _ (.head _)))) (Tr.all_n (c7 _ _ (.tail _ (.head _))) (Tr.all_n (c7 _ _ (.head _)) Tr.all_l Tr.all_l) Tr.all_l) (Tr.all_n (c7 _ _ (.tail _ (.tail _ (.tail _ (.head _))))) Tr.all_l Tr.all_l)) (Tr.all_n (c7 _ _ (.tail _ (.tail _ (.tail _ (.tail _ (.tail _ (.tail _ (.tail _ (.head _))))))))) (Tr.all_n (c7 _ _ (.tail _ (.tail _ (.tail _ (.tail _ (.tail _ (.tail _ (.head _)))))))) (Tr.all_n (c7 _ _ (.tail _ (.tail _ (.tail _ (.tail _ (.tail _ (.head _))))))) Tr.all_l Tr.all_l) Tr.all_l) (Tr.all_n (c7 _ _ (.tail _ (.tail _ (.tail _ (.tail _ (.tail _ (.tail _ (.tail _ (.tail _ (.head _)))))))))) Tr.all_l Tr.all_l))) (Tr.all_n (c8 _ _ (.tail _ (.head _))) (Tr.all_n (c7 _ _ (.tail _ (.tail _ (.tail _ (.tail _ (.tail _ (.tail _ (.tail _ (.tail _ (.tail _ (.tail _ (.tail _ (.tail _ (.head _)))))))))))))) (Tr.all_n (c7 _ _ (.tail _ (.tail _ (.tail _ (.tail _ (.tail _ (.tail _ (.tail _ (.tail _ (.tail _ (.tail _ (.tail _ (.head _))))))))))))) (Tr.all_n (c7 _ _ (.tail _ (.tail _ (.tail _ (.tail _ (.tail _ (.tail _ (.tail _ (.tail _ (.tail _ (.tail _ (.head _)))))))))))) Tr.all_l Tr.all_l) Tr.all_l) (Tr.all_n (.app (c7 _ _ (.tail _ (.tail _ (.tail _ (.tail _ (.tail _ (.tail _ (.tail _ (.tail _ (.tail _ (.tail _ (.tail _ (.tail _ (.tail _ (.head _))))))))))))))) (c8 _ _ (.head _))) Tr.all_l Tr.all_l)) (Tr.all_n (c8 _ _ (.tail _ (.tail _ (.tail _ (.tail _ (.head _)))))) (Tr.all_n (c8 _ _ (.tail _ (.tail _ (.tail _ (.head _))))) (Tr.all_n (c8 _ _ (.tail _ (.tail _ (.head _)))) Tr.all_l Tr.all_l) Tr.all_l) (Tr.all_n (c8 _ _ (.tail _ (.tail _ (.tail _ (.tail _ (.tail _ (.head _))))))) Tr.all_l Tr.all_l)))) h
def e9_32 : Ent := [.m 57092 [v92,j 1000] (j 0) (.o 28943 [v105,j 100] (j 0))
  (.o 61531 [v102,j 1000] (j 0))]
def e9_35 : Ent := [.o 56899 [v41,.fn (.f 36) [] []] (.fsl false 1 5 [j 0,j 0,j 0,j 0,j 0])]
def e9_40 : Ent := [.o 26853 [j 2,.fn (.f 58) [] [.vptr [v92],.vptr [j 1],.vptr [j 0]]] (v103),
  .o 26853 [j 2,.fn (.f 41) [] [.vptr [v105],.vptr [v92],.vptr [j 1]]] (v102)]
def e9_49 : Ent := [.m 32083 [v75,v65] (v10) (.m 17515 [v10,v10] (v68) (.m 13339 [v11,v13] (v13) (.m 13338 [v12,v13] (v12) (.o 5093 [v70,v43] (v13))
  (.l))
  (.m 16987 [v13,v13] (v65) (.o 13342 [v76,v13] (v42))
  (.l)))
  (.m 22905 [v11,v14] (v14) (.m 22904 [v12,v14] (v12) (.o 22778 [v43,v70] (v13))
  (.l))
  (.o 32081 [v76,v65] (v11))))
  (.m 47411 [v65,v12] (v12) (.m 40378 [v13,v11] (v13) (.m 40115 [v13,v12] (v12) (.o 32091 [v77,v65] (v67))
  (.l))
  (.m 40904 [v13,v40] (v10) (.o 40641 [v13,v42] (v11))
  (.l)))
  (.m 48200 [v65,v40] (v66) (.m 47937 [v65,v42] (v13) (.o 47674 [v65,v11] (v65))
  (.l))
  (.o 55471 [v40,v64] (v11))))]
def e9_62 : Ent := [.m 2151 [v21] (v43) (.m 2149 [.str [51]] (v40) (.m 2147 [v4] (v11) (.o 2146 [v0] (v12))
  (.l))
  (.o 2150 [.str [52]] (v76)))
  (.m 45023 [v2] (v13) (.m 17849 [v5] (v70) (.o 14754 [v20] (v44))
  (.l))
  (.o 45025 [v1] (v10)))]
def e9_65 : Ent := [.m 44894 [v57] (.tup [.agg [v2,v4],j 0]) (.o 14255 [v58] (.tup [.agg [v0,v2],j 0]))
  (.o 52488 [v59] (.tup [.agg [v3,v0],j 0]))]
def e9_72 : Ent := [.o 25239 [v78,v63] (v78)]
def e9_73 : Ent := [.m 5365 [v45] (v69) (.m 5360 [v40] (v64) (.o 5359 [v42] (v13))
  (.o 5361 [v76] (v65)))
  (.m 5369 [v46] (v71) (.o 5367 [v44] (v70))
  (.l))]
def e9_74 : Ent := [.m 32077 [v12,v65] (v65) (.m 13338 [v12,v13] (v13) (.m 13076 [v11,.agg [j (-1),.nils,j 2,.nils]] (v13) (.o 1265 [v69,.agg [j (-1),.nils,j 12,.nils]] (v14))
  (.l))
  (.m 24283 [v65,v13] (v66) (.o 16987 [v13,v13] (v11))
  (.l)))
  (.m 40117 [v10,v47] (v13) (.m 40115 [v13,v12] (v13) (.o 39677 [v67,.agg [j (-9),.nils,j 4,.nils]] (v15))
  (.l))
  (.o 43550 [v66,v66] (v10)))]
def e9_86 : Ent := [.m 45023 [v2] (j 0) (.o 17849 [v5] (j 0))
  (.o 45025 [v1] (j 0))]
def e9_91 : Ent := [.o 30369 [v72,.vptr [v73]] (v11)]
def k9 : List (Nat × Ent) := [(32,e9_32),(35,e9_35),(40,e9_40),(49,e9_49),(62,e9_62),(65,e9_65),(72,e9_72),(73,e9_73),(74,e9_74),(86,e9_86),(91,e9_91)]
theorem k9_ok : chunkOk prog lib T3 k9 = true := by decide +kernel
def e10_104 : Ent := [.m 21813 [v56] (v79) (.o 21549 [v51] (v79))
  (.l)]
def e10_121 : Ent := [.o 1866 [v108,.fn (.f 53) [] []] (.fsl false 1 1 [j 0])]
def e10_122 : Ent := [.m 44566 [v61,.fn (.f 107) [] []] (.bool false) (.o 737 [v60,.fn (.f 107) [] []] (.bool false))
  (.l)]
def e10_126 : Ent := [.o 2131 [v93,.vptr [v111]] (j 0)]
def k10 : List (Nat × Ent) := [(104,e10_104),(121,e10_121),(122,e10_122),(126,e10_126)]
theorem k10_ok : chunkOk prog lib T3 k10 = true := by decide +kernel
def t4 : Tr Ent := (.n 73 e9_73 (.n 49 e9_49 (.n 35 e9_35 (.n 32 e9_32 .l .l) (.n 40 e9_40 .l .l)) (.n 65 e9_65 (.n 62 e9_62 .l .l) (.n 72 e9_72 .l .l))) (.n 104 e10_104 (.n 86 e9_86 (.n 74 e9_74 .l .l) (.n 91 e9_91 .l .l)) (.n 122 e10_122 (.n 121 e10_121 .l .l) (.n 126 e10_126 .l .l))))
def T4 : List (Tr Ent) := t4 :: T3
theorem T4_ok {Λ : Link} (hΛ : LinkOk Λ) (hp : Λ.prog = prog) (hl : Λ.lib = lib) : AllT Λ T4 := by
  have h := T3_ok hΛ hp hl
  have c9 := chunk_at hΛ hp hl h k9_ok
  have c10 := chunk_at hΛ hp hl h k10_ok
  exact AllT.cons (Tr.all_n (c9 _ _ (.tail _ (.tail _ (.tail _ (.tail _ (.tail _ (.tail _ (.tail _ (.head _))))))))) (Tr.all_n (c9 _ _ (.tail _ (.tail _ (.tail _ (.head _))))) (Tr.all_n (c9 _ _ (.tail _ (.head _))) (Tr.all_n (c9 _ _ (.head _)) Tr.all_l Tr.all_l) (Tr.all_n (c9 _ _ (.tail _ (.tail _ (.head _)))) Tr.all_l Tr.all_l)) (Tr.all_n (c9 _ _ (.tail _ (.tail _ (.tail _ (.tail _ (.tail _ (.head _))))))) (Tr.all_n (c9 _ _ (.tail _ (.tail _ (.tail _ (.tail _ (.head _)))))) Tr.all_l Tr.all_l) (Tr.all_n (c9 _ _ (.tail _ (.tail _ (.tail _ (.tail _ (.tail _ (.tail _ (.head _)))))))) Tr.all_l Tr.all_l))) (Tr.all_n (c10 _ _ (.head _)) (Tr.all_n (c9 _ _ (.tail _ (.tail _ (.tail _ (.tail _ (.tail _ (.tail _ (.tail _ (.tail _ (.tail _ (.head _))))))))))) (Tr.all_n (c9 _ _ (.tail _ (.tail _ (.tail _ (.tail _ (.tail _ (.tail _ (.tail _ (.tail _ (.head _)))))))))) Tr.all_l Tr.all_l) (Tr.all_n (c9 _ _ (.tail _ (.tail _ (.tail _ (.tail _ (.tail _ (.tail _ (.tail _ (.tail _ (.tail _ (.tail _ (.head _)))))))))))) Tr.all_l Tr.all_l)) (Tr.all_n (c10 _ _ (.tail _ (.tail _ (.head _)))) (Tr.all_n (c10 _ _ (.tail _ (.head _))) Tr.all_l Tr.all_l) (Tr.all_n (c10 _ _ (.tail _ (.tail _ (.tail _ (.head _))))) Tr.all_l Tr.all_l)))) h
def e11_4 : Ent := [.o 32481 [v92] (j 0)]
def e11_5 : Ent := [.o 31824 [j 1,j 2,v41] (.tup [v104,j 0])]
def e11_50 : Ent := [.m 37836 [v67,v68] (v15) (.m 13339 [v11,v13] (v13) (.o 1528 [v69,v71] (v14))
  (.l))
  (.m 40380 [v10,v11] (v13) (.o 40115 [v13,v12] (v13))
  (.l))]
def e11_53 : Ent := [.m 26771 [v89] (j 0) (.m 19734 [v88] (j 0) (.o 19732 [.agg [v2,v0]] (j 0))
  (.l))
  (.o 58079 [.agg [v5,v0]] (j 0))]
def e11_54 : Ent := [.m 42376 [v87] (v63) (.m 19734 [v88] (v80) (.o 19732 [.agg [v2,v0]] (v81))
  (.o 26771 [v89] (v82)))
  (.m 42639 [v90] (v83) (.o 42377 [v91] (v78))
  (.o 58079 [.agg [v5,v0]] (v84)))]
def e11_56 : Ent := [.o 44745 [v56,v92] (v40)]
def e11_61 : Ent := [.m 25846 [v21,j 0] (j 0) (.m 25845 [.str [52],j 0] (j 0) (.o 25841 [v0,j 0] (j 0))
  (.l))
  (.m 38449 [v20,j 0] (j 0) (.o 26105 [v4,j 1] (j 0))
  (.l))]
def e11_63 : Ent := [.o 13594 [v96,v43] (.bool true)]
def e11_70 : Ent := [.m 37522 [v76,v76] (v11) (.m 36996 [v76,v42] (v42) (.m 36993 [v11,v42] (v13) (.o 36992 [v12,v42] (v12))
  (.l))
  (.o 37258 [v40,v40] (v11)))
  (.m 37532 [v77,v76] (v67) (.o 37524 [v75,v76] (v10))
  (.o 39101 [v43,v44] (v13)))]
def e11_75 : Ent := [.m 33840 [v84,v43] (v81) (.m 3604 [v81,v11] (v81) (.o 3341 [v81,v12] (v63))
  (.o 10745 [v57,v11] (v57)))
  (.m 49226 [v83,v13] (v58) (.o 45627 [v58,v11] (v58))
  (.o 51652 [v78,v14] (v59)))]
def e11_78 : Ent := [.o 42377 [v108] (j 0)]
def e11_83 : Ent := [.m 41248 [v60] (.tup [v93,j 0]) (.o 19556 [v61] (.tup [v94,j 0]))
  (.l)]
def e11_88 : Ent := [.m 42642 [v93] (.fsl true 4 2 [j 1,.nils,j 1,.nils,j 1,.nils,j 1,.nils]) (.o 3991 [v107] (.fsl true 4 1 [j 3,.nils,j 1,.nils]))
  (.l)]
def e11_89 : Ent := [.o 2579 [.vsl false 1 [v74],.vptr [v4]] (.fsl false 1 1 [v85])]
def e11_92 : Ent := [.o 63847 [.vsl true 2 [v72,v72],.fn (.f 91) [] [.vptr [v73]]] (.fsl false 4 2 [j 1,.nils,j 1,.nils,j 1,.nils,j 1,.nils])]
def e11_106 : Ent := [.m 61636 [v12,v61,.fn (.f 74) [] []] (v13) (.o 47668 [v12,.vsl false 4 [j 0,.nils,j 1,.nils,j 1,.nils,j 4,.nils,j 1,.nils,j 2,.nils,j 3,.nils,j 4,.nils],.fn (.f 74) [] []] (v10))
  (.l)]
def e11_112 : Ent := [.m 12900 [v57,v81] (v86) (.m 9251 [v83,v81] (v57) (.o 5389 [v58,v63] (v58))
  (.l))
  (.o 36028 [v57,v63] (v57))]
def e11_127 : Ent := [.o 3973 [v111,.fn (.f 126) [] [.vptr [v111]]] (j 0)]
def k11 : List (Nat × Ent) := [(4,e11_4),(5,e11_5),(50,e11_50),(53,e11_53),(54,e11_54),(56,e11_56),(61,e11_61),(63,e11_63),(70,e11_70),(75,e11_75),(78,e11_78),(83,e11_83),(88,e11_88),(89,e11_89),(92,e11_92),(106,e11_106),(112,e11_112),(127,e11_127)]
theorem k11_ok : chunkOk prog lib T4 k11 = true := by decide +kernel
def t5 : Tr Ent := (.n 75 e11_75 (.n 54 e11_54 (.n 50 e11_50 (.n 5 e11_5 (.n 4 e11_4 .l .l) .l) (.n 53 e11_53 .l .l)) (.n 63 e11_63 (.n 61 e11_61 (.n 56 e11_56 .l .l) .l) (.n 70 e11_70 .l .l))) (.n 92 e11_92 (.n 88 e11_88 (.n 83 e11_83 (.n 78 e11_78 .l .l) .l) (.n 89 e11_89 .l .l)) (.n 112 e11_112 (.n 106 e11_106 .l .l) (.n 127 e11_127 .l .l))))
def T5 : List (Tr Ent) := t5 :: T4
theorem T5_ok {Λ : Link} (hΛ : LinkOk Λ) (hp : Λ.prog = prog) (hl : Λ.lib = lib) : AllT Λ T5 := by
  have h := T4_ok hΛ hp hl
  have c11 := chunk_at hΛ hp hl h k11_ok
  exact AllT.cons (Tr.all_n (c11 _ _ (.tail _ (.tail _ (.tail _ (.tail _ (.tail _ (.tail _ (.tail _ (.tail _ (.tail _ (.head _))))))))))) (Tr.all_n (c11 _ _ (.tail _ (.tail _ (.tail _ (.tail _ (.head _)))))) (Tr.all_n (c11 _ _ (.tail _ (.tail _ (.head _)))) (Tr.all_n (c11 _ _ (.tail _ (.head _))) (Tr.all_n (c11 _ _ (.head _)) Tr.all_l Tr.all_l) Tr.all_l) (Tr.all_n (c11 _ _ (.tail _ (.tail _ (.tail _ (.head _))))) Tr.all_l Tr.all_l)) (Tr.all_n (c11 _ _ (.tail _ (.tail _ (.tail _ (.tail _ (.tail _ (.tail _ (.tail _ (.head _))))))))) (Tr.all_n (c11 _ _ (.tail _ (.tail _ (.tail _ (.tail _ (.tail _ (.tail _ (.head _)))))))) (Tr.all_n (c11 _ _ (.tail _ (.tail _ (.tail _ (.tail _ (.tail _ (.head _))))))) Tr.all_l Tr.all_l) Tr.all_l) (Tr.all_n (c11 _ _ (.tail _ (.tail _ (.tail _ (.tail _ (.tail _ (.tail _ (.tail _ (.tail _ (.head _)))))))))) Tr.all_l Tr.all_l))) (Tr.all_n (c11 _ _ (.tail _ (.tail _ (.tail _ (.tail _ (.tail _ (.tail _ (.tail _ (.tail _ (.tail _ (.tail _ (.tail _ (.tail _ (.tail _ (.tail _ (.head _)))))))))))))))) (Tr.all_n (c11 _ _ (.tail _ (.tail _ (.tail _ (.tail _ (.tail _ (.tail _ (.tail _ (.tail _ (.tail _ (.tail _ (.tail _ (.tail _ (.head _)))))))))))))) (Tr.all_n (c11 _ _ (.tail _ (.tail _ (.tail _ (.tail _ (.tail _ (.tail _ (.tail _ (.tail _ (.tail _ (.tail _ (.tail _ (.head _))))))))))))) (Tr.all_n (c11 _ _ (.tail _ (.tail _ (.tail _ (.tail _ (.tail _ (.tail _ (.tail _ (.tail _ (.tail _ (.tail _ (.head _)))))))))))) Tr.all_l Tr.all_l) Tr.all_l) (Tr.all_n (c11 _ _ (.tail _ (.tail _ (.tail _ (.tail _ (.tail _ (.tail _ (.tail _ (.tail _ (.tail _ (.tail _ (.tail _ (.tail _ (.tail _ (.head _))))))))))))))) Tr.all_l Tr.all_l)) (Tr.all_n (c11 _ _ (.tail _ (.tail _ (.tail _ (.tail _ (.tail _ (.tail _ (.tail _ (.tail _ (.tail _ (.tail _ (.tail _ (.tail _ (.tail _ (.tail _ (.tail _ (.tail _ (.head _)))))))))))))))))) (Tr.all_n (c11 _ _ (.tail _ (.tail _ (.tail _ (.tail _ (.tail _ (.tail _ (.tail _ (.tail _ (.tail _ (.tail _ (.tail _ (.tail _ (.tail _ (.tail _ (.tail _ (.head _))))))))))))))))) Tr.all_l Tr.all_l) (Tr.all_n (c11 _ _ (.tail _ (.tail _ (.tail _ (.tail _ (.tail _ (.tail _ (.tail _ (.tail _ (.tail _ (.tail _ (.tail _ (.tail _ (.tail _ (.tail _ (.tail _ (.tail _ (.tail _ (.head _))))))))))))))))))) Tr.all_l Tr.all_l)))) h
def e12_9 : Ent := [.o 63249 [v92,v105] (.tup [v102,j 0])]
def e12_20 : Ent := [.o 63729 [v92,j 1,j 0] (.tup [v103,j 0])]
def e12_45 : Ent := [.o 26853 [j 2,.fn (.f 44) [] [.vptr [v92]]] (v10),
  .o 26853 [j 2,.fn (.f 47) [] [.vptr [v92]]] (v10),
  .o 26853 [j 2,.fn (.f 48) [] [.vptr [v92]]] (v67),
  .o 26853 [j 2,.fn (.f 52) [] [.vptr [v92],.vptr [j 1],.vptr [j 0]]] (v11)]
def e12_60 : Ent := [.m 48449 [v95] (j 0) (.o 46691 [v96] (j 0))
  (.o 64152 [v97] (j 0))]
def e12_64 : Ent := [.m 13425 [v95,v43,v87] (v63) (.o 5737 [v97,v43,v90] (v57))
  (.o 53797 [v96,v43,v90] (v58))]
def e12_84 : Ent := [.o 44484 [v111] (j 0)]
def e12_87 : Ent := [.o 3973 [v111,.fn (.f 88) [] []] (.fsl false 1 1 [v74])]
def e12_90 : Ent := [.o 39364 [.vsl false 1 [v85],.vsl true 1 [j 3,.nils,j 1,.nils]] (.fsl true 4 1 [j 1,.nils,j 1,.nils])]
def e12_103 : Ent := [.m 33227 [v13,j 2] (.tup [j 0,v13]) (.m 29579 [v11,j 2] (.tup [j 1,v12]) (.o 29578 [v12,j 2] (.tup [j 0,v12]))
  (.l))
  (.o 33229 [v10,j 2] (.tup [j 1,v13]))]
def e12_104 : Ent := [.m 23891 [v48] (.agg [j 1,.nils,j 4,.nils,j 1,.nils,j 4,.nils,j 1,.nils,j 4,.nils,j 1,.nils,j 4,.nils]) (.o 13102 [v52] (.agg [j 1,.nils,j 2,.nils,j 0,.nils,j 1,.nils,j 1,.nils,j 2,.nils,j 0,.nils,j 1,.nils]))
  (.o 32339 [v53] (.agg [j 1,.nils,j 2,.nils,j 1,.nils,j 2,.nils,j 0,.nils,j 1,.nils,j 0,.nils,j 1,.nils]))]
def e12_115 : Ent := [.o 45199 [v109] (j 0)]
def k12 : List (Nat × Ent) := [(9,e12_9),(20,e12_20),(45,e12_45),(60,e12_60),(64,e12_64),(84,e12_84),(87,e12_87),(90,e12_90),(103,e12_103),(104,e12_104),(115,e12_115)]
theorem k12_ok : chunkOk prog lib T5 k12 = true := by decide +kernel
def t6 : Tr Ent := (.n 84 e12_84 (.n 45 e12_45 (.n 20 e12_20 (.n 9 e12_9 .l .l) .l) (.n 64 e12_64 (.n 60 e12_60 .l .l) .l)) (.n 103 e12_103 (.n 90 e12_90 (.n 87 e12_87 .l .l) .l) (.n 115 e12_115 (.n 104 e12_104 .l .l) .l)))
def T6 : List (Tr Ent) := t6 :: T5
theorem T6_ok {Λ : Link} (hΛ : LinkOk Λ) (hp : Λ.prog = prog) (hl : Λ.lib = lib) : AllT Λ T6 := by
  have h := T5_ok hΛ hp hl
  have c12 := chunk_at hΛ hp hl h k12_ok
  exact AllT.cons (Tr.all_n (c12 _ _ (.tail _ (.tail _ (.tail _ (.tail _ (.tail _ (.head _))))))) (Tr.all_n (c12 _ _ (.tail _ (.tail _ (.head _)))) (Tr.all_n (c12 _ _ (.tail _ (.head _))) (Tr.all_n (c12 _ _ (.head _)) Tr.all_l Tr.all_l) Tr.all_l) (Tr.all_n (c12 _ _ (.tail _ (.tail _ (.tail _ (.tail _ (.head _)))))) (Tr.all_n (c12 _ _ (.tail _ (.tail _ (.tail _ (.head _))))) Tr.all_l Tr.all_l) Tr.all_l)) (Tr.all_n (c12 _ _ (.tail _ (.tail _ (.tail _ (.tail _ (.tail _ (.tail _ (.tail _ (.tail _ (.head _)))))))))) (Tr.all_n (c12 _ _ (.tail _ (.tail _ (.tail _ (.tail _ (.tail _ (.tail _ (.tail _ (.head _))))))))) (Tr.all_n (c12 _ _ (.tail _ (.tail _ (.tail _ (.tail _ (.tail _ (.tail _ (.head _)))))))) Tr.all_l Tr.all_l) Tr.all_l) (Tr.all_n (c12 _ _ (.tail _ (.tail _ (.tail _ (.tail _ (.tail _ (.tail _ (.tail _ (.tail _ (.tail _ (.tail _ (.head _)))))))))))) (Tr.all_n (c12 _ _ (.tail _ (.tail _ (.tail _ (.tail _ (.tail _ (.tail _ (.tail _ (.tail _ (.tail _ (.head _))))))))))) Tr.all_l Tr.all_l) Tr.all_l))) h
def e13_16 : Ent := [.o 32481 [v92] (v106)]
def e13_17 : Ent := [.o 32481 [v92] (.tup [.str [53,47,52],j 0])]
def e13_18 : Ent := [.o 63729 [v92,j 1,j 0] (.tup [v4,j 0])]
def e13_22 : Ent := [.m 61077 [v96,v21,v90] (.tup [.agg [v0,v2],j 0]) (.o 13017 [v97,v21,v90] (.tup [.agg [v2,v4],j 0]))
  (.l)]
def e13_25 : Ent := [.o 12660 [v96,.str [52],v87,v91] (.tup [.agg [v3,v0],j 0])]
def e13_27 : Ent := [.o 53661 [v111,v107,v4] (.tup [v93,j 0])]
def e13_55 : Ent := [.m 58325 [v63,j 2] (v51) (.m 42125 [v82,j 2] (v48) (.o 38476 [v58,j 2] (v52))
  (.l))
  (.m 65467 [v86,j 2] (v56) (.o 61976 [v80,j 2] (v53))
  (.l))]
def e13_56 : Ent := [.m 46823 [v48,v92] (v10) (.o 36034 [v52,v92] (v11))
  (.o 55271 [v53,v92] (v13))]
def e13_66 : Ent := [.m 62507 [v109,v96,v90,j 0] (j 0) (.o 44889 [v109,v97,v90,j 1] (j 0))
  (.l)]
def e13_77 : Ent := [.o 7939 [.vsl true 1 [v0,v0,v0],.fn (.f 60) [] []] (.fsl false 1 1 [j 0])]
def e13_116 : Ent := [.m 44889 [v109,v97,v90,j 1] (v86) (.o 24084 [v109,v95,v87,j 0] (v63))
  (.o 62507 [v109,v96,v90,j 0] (v58))]
def e13_120 : Ent := [.o 4689 [v110,.fn (.f 115) [] []] (.fsl false 1 1 [j 0])]
def k13 : List (Nat × Ent) := [(16,e13_16),(17,e13_17),(18,e13_18),(22,e13_22),(25,e13_25),(27,e13_27),(55,e13_55),(56,e13_56),(66,e13_66),(77,e13_77),(116,e13_116),(120,e13_120)]
theorem k13_ok : chunkOk prog lib T6 k13 = true := by decide +kernel
def t7 : Tr Ent := (.n 55 e13_55 (.n 22 e13_22 (.n 17 e13_17 (.n 16 e13_16 .l .l) (.n 18 e13_18 .l .l)) (.n 27 e13_27 (.n 25 e13_25 .l .l) .l)) (.n 77 e13_77 (.n 66 e13_66 (.n 56 e13_56 .l .l) .l) (.n 120 e13_120 (.n 116 e13_116 .l .l) .l)))
def T7 : List (Tr Ent) := t7 :: T6
theorem T7_ok {Λ : Link} (hΛ : LinkOk Λ) (hp : Λ.prog = prog) (hl : Λ.lib = lib) : AllT Λ T7 := by
  have h := T6_ok hΛ hp hl
  have c13 := chunk_at hΛ hp hl h k13_ok
  exact AllT.cons (Tr.all_n (c13 _ _ (.tail _ (.tail _ (.tail _ (.tail _ (.tail _ (.tail _ (.head _)))))))) (Tr.all_n (c13 _ _ (.tail _ (.tail _ (.tail _ (.head _))))) (Tr.all_n (c13 _ _ (.tail _ (.head _))) (Tr.all_n (c13 _ _ (.head _)) Tr.all_l Tr.all_l) (Tr.all_n (c13 _ _ (.tail _ (.tail _ (.head _)))) Tr.all_l Tr.all_l)) (Tr.all_n (c13 _ _ (.tail _ (.tail _ (.tail _ (.tail _ (.tail _ (.head _))))))) (Tr.all_n (c13 _ _ (.tail _ (.tail _ (.tail _ (.tail _ (.head _)))))) Tr.all_l Tr.all_l) Tr.all_l)) (Tr.all_n (c13 _ _ (.tail _ (.tail _ (.tail _ (.tail _ (.tail _ (.tail _ (.tail _ (.tail _ (.tail _ (.head _))))))))))) (Tr.all_n (c13 _ _ (.tail _ (.tail _ (.tail _ (.tail _ (.tail _ (.tail _ (.tail _ (.tail _ (.head _)))))))))) (Tr.all_n (c13 _ _ (.tail _ (.tail _ (.tail _ (.tail _ (.tail _ (.tail _ (.tail _ (.head _))))))))) Tr.all_l Tr.all_l) Tr.all_l) (Tr.all_n (c13 _ _ (.tail _ (.tail _ (.tail _ (.tail _ (.tail _ (.tail _ (.tail _ (.tail _ (.tail _ (.tail _ (.tail _ (.head _))))))))))))) (Tr.all_n (c13 _ _ (.tail _ (.tail _ (.tail _ (.tail _ (.tail _ (.tail _ (.tail _ (.tail _ (.tail _ (.tail _ (.head _)))))))))))) Tr.all_l Tr.all_l) Tr.all_l))) h
def e14_19 : Ent := [.m 60666 [v92,v89] (v106) (.o 44523 [v92,v88] (.tup [v2,j 0]))
  (.l)]
def e14_67 : Ent := [.m 62507 [v109,v96,v90,j 0] (v13) (.o 44889 [v109,v97,v90,j 1] (v10))
  (.l)]
def e14_76 : Ent := [.o 45200 [v110] (j 0)]
def e14_82 : Ent := [.o 45043 [v110,v95,v87,j 0,j 4] (.fsl false 4 4 [j 1,.nils,j 2,.nils,j 0,.nils,j 1,.nils,j 0,.nils,j 1,.nils,j 0,.nils,j 1,.nils])]
def k14 : List (Nat × Ent) := [(19,e14_19),(67,e14_67),(76,e14_76),(82,e14_82)]
theorem k14_ok : chunkOk prog lib T7 k14 = true := by decide +kernel
def t8 : Tr Ent := (.n 76 e14_76 (.n 67 e14_67 (.n 19 e14_19 .l .l) .l) (.n 82 e14_82 .l .l))
def T8 : List (Tr Ent) := t8 :: T7
theorem T8_ok {Λ : Link} (hΛ : LinkOk Λ) (hp : Λ.prog = prog) (hl : Λ.lib = lib) : AllT Λ T8 := by
  have h := T7_ok hΛ hp hl
  have c14 := chunk_at hΛ hp hl h k14_ok
  exact AllT.cons (Tr.all_n (c14 _ _ (.tail _ (.tail _ (.head _)))) (Tr.all_n (c14 _ _ (.tail _ (.head _))) (Tr.all_n (c14 _ _ (.head _)) Tr.all_l Tr.all_l) Tr.all_l) (Tr.all_n (c14 _ _ (.tail _ (.tail _ (.tail _ (.head _))))) Tr.all_l Tr.all_l)) h
def e15_24 : Ent := [.m 62507 [v109,v96,v90,j 0] (.tup [v2,j 0]) (.o 44889 [v109,v97,v90,j 1] (v106))
  (.l)]
def e15_26 : Ent := [.o 27996 [v110,.vsl true 1 [v0,v0,v0],v108,j 0] (.tup [.fsl false 1 1 [v94],j 0])]
def k15 : List (Nat × Ent) := [(24,e15_24),(26,e15_26)]
theorem k15_ok : chunkOk prog lib T8 k15 = true := by decide +kernel
def t9 : Tr Ent := (.n 26 e15_26 (.n 24 e15_24 .l .l) .l)
def T9 : List (Tr Ent) := t9 :: T8
theorem T9_ok {Λ : Link} (hΛ : LinkOk Λ) (hp : Λ.prog = prog) (hl : Λ.lib = lib) : AllT Λ T9 := by
  have h := T8_ok hΛ hp hl
  have c15 := chunk_at hΛ hp hl h k15_ok
  exact AllT.cons (Tr.all_n (c15 _ _ (.tail _ (.head _))) (Tr.all_n (c15 _ _ (.head _)) Tr.all_l Tr.all_l) Tr.all_l) h
def e16_1 : Ent := [.o 7 [] (.bool true)]
def k16 : List (Nat × Ent) := [(1,e16_1)]
theorem k16_ok : chunkOk prog lib T9 k16 = true := by decide +kernel
def t10 : Tr Ent := (.n 1 e16_1 .l .l)
def T10 : List (Tr Ent) := t10 :: T9
theorem T10_ok {Λ : Link} (hΛ : LinkOk Λ) (hp : Λ.prog = prog) (hl : Λ.lib = lib) : AllT Λ T10 := by
  have h := T9_ok hΛ hp hl
  have c16 := chunk_at hΛ hp hl h k16_ok
  exact AllT.cons (Tr.all_n (c16 _ _ (.head _)) Tr.all_l Tr.all_l) h
theorem holds {Λ : Link} (hΛ : LinkOk Λ) (hp : Λ.prog = prog) (hl : Λ.lib = lib) : PureC Λ 1 [] (.bool true) := Tr.all_find (T10_ok hΛ hp hl t10 (.head _)) (i := 1) rfl _ _ ⟨_,.head _,.inl rfl⟩
end VK1
end VE
