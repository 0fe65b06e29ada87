import Derived.Test.YtljdkbioipgoeaaGreatDoorTables
import Derived.Test.YtljdkbioipgoeaaGreatDoorMemo
set_option linter.all false
set_option maxRecDepth 100000
namespace VE
namespace VK1
abbrev j (n : Int) : AV := .int .i64 n
def t0 : Tr Ent := .l
theorem t0_ok {Λ : Link} (_hΛ : LinkOk Λ) (_hp : Λ.prog = prog) (_hl : Λ.lib = lib) : t0.All (AllC Λ) := Tr.all_l
def e0_14 : Ent := [([.str [49,47,49,48],.str [48]],.agg [.str [49,47,49,48],.str [48]]),
  ([.str [48],.str [48]],.agg [.str [48],.str [48]]),
  ([.str [49,47,50],.str [49,47,50]],.agg [.str [49,47,50],.str [49,47,50]]),
  ([.str [51,47,50],.str [48]],.agg [.str [51,47,50],.str [48]]),
  ([.str [48],.str [49]],.agg [.str [48],.str [49]]),
  ([.str [49,47,50],.str [48]],.agg [.str [49,47,50],.str [48]]),
  ([.str [49],.str [48]],.agg [.str [49],.str [48]]),
  ([.str [49,47,50],.str [49]],.agg [.str [49,47,50],.str [49]]),
  ([.str [48],.str [49,47,50]],.agg [.str [48],.str [49,47,50]]),
  ([.str [49,47,50,52],.str [48]],.agg [.str [49,47,50,52],.str [48]])]
def e0_15 : Ent := [([],.vsl true 2 [.vsl true 2 [j 0,j 1],.vsl true 2 [j 2,j 3]])]
def e0_29 : Ent := [([.vsl true 4 [.str [49,47,50],.str [48],.str [48],.str [48]],.vsl true 4 [.str [49,47,50],.str [48],.str [48],.str [48]]],.bool true),
  ([.vsl true 2 [.str [49],.str [49]],.vsl true 2 [.str [49],.str [49]]],.bool true)]
def e0_31 : Ent := [([.bool false,j 12],j 0),
  ([.bool false,j 5],j 0),
  ([.bool false,j 2],j 0),
  ([.bool false,j 3],j 0),
  ([.bool false,j 31],j 0),
  ([.bool false,j 13],j 0)]
def e0_33 : Ent := [([.vsl true 2 [j 0,j 0]],j 0)]
def k0 : List (Nat × Ent) := [(14,e0_14),(15,e0_15),(29,e0_29),(31,e0_31),(33,e0_33)]
theorem k0_ok : chunkOk prog lib t0 k0 = true := by decide +kernel
def e1_33 : Ent := [([.vsl true 3 [j 0,j 0,j 0]],j 0),
  ([.vsl true 5 [j 0,j 0,j 0,j 0,j 0]],j 0),
  ([.vsl false 5 [j 0,j 0,j 0,j 0,j 0]],j 0),
  ([.vsl true 6 [j 0,j 0,j 0,j 0,j 0,j 0]],j 0),
  ([.vsl true 4 [j 0,j 0,j 0,j 0]],j 0),
  ([.vsl false 1 [j 0]],j 0)]
def e1_38 : Ent := [([j 0,j 1],j 1),
  ([j 1,j 1],j 2),
  ([j 2,j 1],j 3),
  ([j 3,j 1],j 4),
  ([j 4,j 1],j 5)]
def e1_44 : Ent := [([j 0,j 0,.vptr [.vsl true 2 [.vsl true 2 [j 0,j 1],.vsl true 2 [j 2,j 3]]]],j 0),
  ([j 1,j 0,.vptr [.vsl true 2 [.vsl true 2 [j 0,j 1],.vsl true 2 [j 2,j 3]]]],j 1),
  ([j 0,j 1,.vptr [.vsl true 2 [.vsl true 2 [j 0,j 1],.vsl true 2 [j 2,j 3]]]],j 2),
  ([j 1,j 1,.vptr [.vsl true 2 [.vsl true 2 [j 0,j 1],.vsl true 2 [j 2,j 3]]]],j 3)]
def e1_47 : Ent := [([j 0,j 0,.vptr [.vsl true 2 [.vsl true 2 [j 0,j 1],.vsl true 2 [j 2,j 3]]]],j 0),
  ([j 1,j 0,.vptr [.vsl true 2 [.vsl true 2 [j 0,j 1],.vsl true 2 [j 2,j 3]]]],j 1),
  ([j 0,j 1,.vptr [.vsl true 2 [.vsl true 2 [j 0,j 1],.vsl true 2 [j 2,j 3]]]],j 2),
  ([j 1,j 1,.vptr [.vsl true 2 [.vsl true 2 [j 0,j 1],.vsl true 2 [j 2,j 3]]]],j 3)]
def e1_48 : Ent := [([j 0,j 0,.vptr [.vsl true 2 [.vsl true 2 [j 0,j 1],.vsl true 2 [j 2,j 3]]]],j 0)]
def k1 : List (Nat × Ent) := [(33,e1_33),(38,e1_38),(44,e1_44),(47,e1_47),(48,e1_48)]
theorem k1_ok : chunkOk prog lib t0 k1 = true := by decide +kernel
def e2_48 : Ent := [([j 1,j 0,.vptr [.vsl true 2 [.vsl true 2 [j 0,j 1],.vsl true 2 [j 2,j 3]]]],j 1),
  ([j 0,j 1,.vptr [.vsl true 2 [.vsl true 2 [j 0,j 1],.vsl true 2 [j 2,j 3]]]],j 4),
  ([j 1,j 1,.vptr [.vsl true 2 [.vsl true 2 [j 0,j 1],.vsl true 2 [j 2,j 3]]]],j 9)]
def e2_59 : Ent := [([.vsl true 2 [j 1,j 0],.vsl true 2 [j 1,j 0]],.bool true),
  ([.vsl true 2 [j 3,j 2],.vsl true 2 [j 3,j 2]],.bool true),
  ([.vsl true 2 [j 1,j 2],.vsl true 2 [j 1,j 2]],.bool true),
  ([.vsl true 2 [j 2,j 4],.vsl true 2 [j 2,j 4]],.bool true)]
def e2_68 : Ent := [([.agg [.str [49,47,49,48],.str [48],.str [48]]],.bool true),
  ([.agg [.str [48],.str [48],.str [49,48]]],.bool false),
  ([.agg [.str [48],.str [48],.str [48]]],.bool true)]
def e2_80 : Ent := [([.agg [.vsl true 2 [.vsl true 2 [j 0,j 1],.vsl true 2 [j 2,j 3]],.str [53],.str [49],.str [49,47,50],.str [48],.str [48],.str [49,47,50],.str [48]]],j 4)]
def e2_81 : Ent := [([j 0,j 4],j 4)]
def e2_94 : Ent := [([j 0,.vptr [j 1000]],.bool false),
  ([j 1,.vptr [j 1000]],.bool false),
  ([j 2,.vptr [j 1000]],.bool false),
  ([j 3,.vptr [j 1000]],.bool false),
  ([j 0,.vptr [j 100]],.bool false),
  ([j 1,.vptr [j 100]],.bool false),
  ([j 4,.vptr [j 1000]],.bool false)]
def e2_96 : Ent := [([j 2],.fn (.f 133) [] [.vptr [j 2]])]
def k2 : List (Nat × Ent) := [(48,e2_48),(59,e2_59),(68,e2_68),(80,e2_80),(81,e2_81),(94,e2_94),(96,e2_96)]
theorem k2_ok : chunkOk prog lib t0 k2 = true := by decide +kernel
def e3_96 : Ent := [([j 3],.fn (.f 133) [] [.vptr [j 3]])]
def e3_98 : Ent := [([.agg [j 3,.nils,j 2,.nils]],.bool false),
  ([.agg [j 7,.nils,j 2,.nils]],.bool false),
  ([.agg [j 5,.nils,j 4,.nils]],.bool false),
  ([.agg [j 1,.nils,j 1,.nils]],.bool true),
  ([.agg [j 0,.nils,j 1,.nils]],.bool true),
  ([.agg [j 1,.nils,j 2,.nils]],.bool false),
  ([.agg [j (-1),.nils,j 2,.nils]],.bool false),
  ([.agg [j 1,.nils,j 4,.nils]],.bool false),
  ([.agg [j 3,.nils,j 4,.nils]],.bool false),
  ([.agg [j (-1),.nils,j 1,.nils]],.bool true),
  ([.agg [j 3,.nils,j 1,.nils]],.bool true),
  ([.agg [j 10,.nils,j 1,.nils]],.bool true),
  ([.agg [j (-2),.nils,j 1,.nils]],.bool true),
  ([.agg [j 2,.nils,j 1,.nils]],.bool true),
  ([.agg [j 1,.nils,j 8,.nils]],.bool false),
  ([.agg [j 1,.nils,j 24,.nils]],.bool false)]
def e3_99 : Ent := [([.agg [j 3,.nils]],.str [51]),
  ([.agg [j 2,.nils]],.str [50]),
  ([.agg [j 5,.nils]],.str [53])]
def k3 : List (Nat × Ent) := [(96,e3_96),(98,e3_98),(99,e3_99)]
theorem k3_ok : chunkOk prog lib t0 k3 = true := by decide +kernel
def e4_99 : Ent := [([.agg [j 4,.nils]],.str [52]),
  ([.agg [j 1,.nils]],.str [49]),
  ([.agg [j 0,.nils]],.str [48]),
  ([.agg [j 24,.nils]],.str [50,52])]
def e4_117 : Ent := [([j 6],.agg [j 6,.nils]),
  ([j 1],.agg [j 1,.nils]),
  ([j 4],.agg [j 4,.nils]),
  ([j 14],.agg [j 14,.nils]),
  ([j 10],.agg [j 10,.nils]),
  ([j 2],.agg [j 2,.nils]),
  ([j 0],.agg [j 0,.nils]),
  ([j 3],.agg [j 3,.nils]),
  ([j 5],.agg [j 5,.nils])]
def e4_118 : Ent := [([.agg [j 1,.nils],.agg [j 1,.nils]],j 0),
  ([.agg [j 5,.nils],.agg [j 10,.nils]],j (-1)),
  ([.agg [j 2,.nils],.agg [j 10,.nils]],j (-1))]
def e4_119 : Ent := [([.agg [j 28,.nils],.agg [j (-18),.nils]],.agg [j 10,.nils]),
  ([.agg [j 0,.nils],.agg [j 1,.nils]],.agg [j 1,.nils]),
  ([.agg [j 0,.nils],.agg [j 2,.nils]],.agg [j 2,.nils]),
  ([.agg [j 0,.nils],.agg [j 0,.nils]],.agg [j 0,.nils])]
def k4 : List (Nat × Ent) := [(99,e4_99),(117,e4_117),(118,e4_118),(119,e4_119)]
theorem k4_ok : chunkOk prog lib t0 k4 = true := by decide +kernel
def e5_119 : Ent := [([.agg [j 1,.nils],.agg [j 0,.nils]],.agg [j 1,.nils]),
  ([.agg [j 2,.nils],.agg [j (-1),.nils]],.agg [j 1,.nils]),
  ([.agg [j 2,.nils],.agg [j 4,.nils]],.agg [j 6,.nils]),
  ([.agg [j 12,.nils],.agg [j 12,.nils]],.agg [j 24,.nils]),
  ([.agg [j 0,.nils],.agg [j 3,.nils]],.agg [j 3,.nils]),
  ([.agg [j 3,.nils],.agg [j (-2),.nils]],.agg [j 1,.nils]),
  ([.agg [j 0,.nils],.agg [j 10,.nils]],.agg [j 10,.nils]),
  ([.agg [j 0,.nils],.agg [j 5,.nils]],.agg [j 5,.nils]),
  ([.agg [j 2,.nils],.agg [j 2,.nils]],.agg [j 4,.nils]),
  ([.agg [j 1,.nils],.agg [j (-1),.nils]],.agg [j 0,.nils]),
  ([.agg [j 3,.nils],.agg [j 0,.nils]],.agg [j 3,.nils]),
  ([.agg [j 0,.nils],.agg [j 4,.nils]],.agg [j 4,.nils]),
  ([.agg [j 10,.nils],.agg [j (-2),.nils]],.agg [j 8,.nils]),
  ([.agg [j 10,.nils],.agg [j 2,.nils]],.agg [j 12,.nils]),
  ([.agg [j 12,.nils],.agg [j (-8),.nils]],.agg [j 4,.nils]),
  ([.agg [j 1,.nils],.agg [j 1,.nils]],.agg [j 2,.nils]),
  ([.agg [j 2,.nils],.agg [j 1,.nils]],.agg [j 3,.nils])]
def e5_124 : Ent := [([.bool false,j 1],j 0),
  ([.bool false,j 4],j 0),
  ([.bool false,j 12],j 0)]
def k5 : List (Nat × Ent) := [(119,e5_119),(124,e5_124)]
theorem k5_ok : chunkOk prog lib t0 k5 = true := by decide +kernel
def e6_124 : Ent := [([.bool false,j 5],j 0),
  ([.bool false,j 2],j 0)]
def e6_125 : Ent := [([.vsl true 2 [j 0,j 0]],j 0),
  ([.vsl true 4 [j 0,j 0,j 0,j 0]],j 0)]
def e6_129 : Ent := [([.str [49]],.bool true),
  ([.str [50]],.bool true),
  ([.str [51]],.bool true),
  ([.str [48]],.bool true),
  ([.str [49,48]],.bool true),
  ([.str [53]],.bool true),
  ([.str [52]],.bool true)]
def e6_134 : Ent := [([j 0,j 2],j 0),
  ([j 1,j 2],j 1),
  ([j 2,j 2],j 0),
  ([j (-1),j 2],j 1)]
def e6_136 : Ent := [([.agg [j 0,.nils]],.tup [.bool false,.nils])]
def e6_142 : Ent := [([j 6],.int .u64 6),
  ([j 1],.int .u64 1),
  ([j 4],.int .u64 4),
  ([j 14],.int .u64 14)]
def k6 : List (Nat × Ent) := [(124,e6_124),(125,e6_125),(129,e6_129),(134,e6_134),(136,e6_136),(142,e6_142)]
theorem k6_ok : chunkOk prog lib t0 k6 = true := by decide +kernel
def e7_142 : Ent := [([j 3],.int .u64 3),
  ([j 2],.int .u64 2),
  ([j 7],.int .u64 7),
  ([j (-9)],.int .u64 9),
  ([j 10],.int .u64 10),
  ([j 0],.int .u64 0),
  ([j (-1)],.int .u64 1),
  ([j 100],.int .u64 100),
  ([j 5],.int .u64 5),
  ([j 12],.int .u64 12),
  ([j 8],.int .u64 8),
  ([j 24],.int .u64 24)]
def e7_146 : Ent := [([.agg [j 4,.nils]],j 1),
  ([.agg [j 1,.nils]],j 1),
  ([.agg [j 0,.nils]],j 0),
  ([.agg [j 2,.nils]],j 1),
  ([.agg [j 8,.nils]],j 1),
  ([.agg [j 3,.nils]],j 1),
  ([.agg [j 6,.nils]],j 1),
  ([.agg [j 16,.nils]],j 1)]
def k7 : List (Nat × Ent) := [(142,e7_142),(146,e7_146)]
theorem k7_ok : chunkOk prog lib t0 k7 = true := by decide +kernel
def e8_146 : Ent := [([.agg [j 10,.nils]],j 1),
  ([.agg [j 5,.nils]],j 1),
  ([.agg [j 12,.nils]],j 1),
  ([.agg [j 96,.nils]],j 1),
  ([.agg [j 24,.nils]],j 1)]
def e8_147 : Ent := [([.agg [j 9,.nils]],.agg [j (-9),.nils]),
  ([.agg [j 0,.nils]],.agg [j 0,.nils]),
  ([.agg [j 1,.nils]],.agg [j (-1),.nils]),
  ([.agg [j 2,.nils]],.agg [j (-2),.nils])]
def e8_150 : Ent := [([.agg [j 0,.nils]],.tup [j 0,.bool true]),
  ([.agg [j 1,.nils]],.tup [j 1,.bool true])]
def e8_163 : Ent := [([.agg [j 1,.nils]],.agg [j 1,.nils]),
  ([.agg [j 4,.nils]],.agg [j 4,.nils]),
  ([.agg [j 6,.nils]],.agg [j 6,.nils]),
  ([.agg [j 14,.nils]],.agg [j 14,.nils]),
  ([.agg [j 9,.nils]],.agg [j 9,.nils]),
  ([.agg [j 10,.nils]],.agg [j 10,.nils]),
  ([.agg [j 8,.nils]],.agg [j 8,.nils]),
  ([.agg [j 2,.nils]],.agg [j 2,.nils]),
  ([.agg [j 0,.nils]],.agg [j 0,.nils])]
def k8 : List (Nat × Ent) := [(146,e8_146),(147,e8_147),(150,e8_150),(163,e8_163)]
theorem k8_ok : chunkOk prog lib t0 k8 = true := by decide +kernel
def e9_163 : Ent := [([.agg [j 3,.nils]],.agg [j 3,.nils]),
  ([.agg [j 24,.nils]],.agg [j 24,.nils]),
  ([.agg [j 16,.nils]],.agg [j 16,.nils]),
  ([.agg [j 5,.nils]],.agg [j 5,.nils]),
  ([.agg [j 12,.nils]],.agg [j 12,.nils]),
  ([.agg [j 96,.nils]],.agg [j 96,.nils])]
def e9_164 : Ent := [([.agg [j 1,.nils],.agg [j 4,.nils]],.tup [.agg [j 0,.nils],.agg [j 1,.nils]]),
  ([.agg [j 4,.nils],.agg [j 1,.nils]],.tup [.agg [j 4,.nils],.agg [j 0,.nils]]),
  ([.agg [j 1,.nils],.agg [j 1,.nils]],.tup [.agg [j 1,.nils],.agg [j 0,.nils]]),
  ([.agg [j 6,.nils],.agg [j 4,.nils]],.tup [.agg [j 1,.nils],.agg [j 2,.nils]]),
  ([.agg [j 4,.nils],.agg [j 2,.nils]],.tup [.agg [j 2,.nils],.agg [j 0,.nils]]),
  ([.agg [j 6,.nils],.agg [j 2,.nils]],.tup [.agg [j 3,.nils],.agg [j 0,.nils]]),
  ([.agg [j 14,.nils],.agg [j 4,.nils]],.tup [.agg [j 3,.nils],.agg [j 2,.nils]]),
  ([.agg [j 14,.nils],.agg [j 2,.nils]],.tup [.agg [j 7,.nils],.agg [j 0,.nils]]),
  ([.agg [j 9,.nils],.agg [j 4,.nils]],.tup [.agg [j 2,.nils],.agg [j 1,.nils]]),
  ([.agg [j 9,.nils],.agg [j 1,.nils]],.tup [.agg [j 9,.nils],.agg [j 0,.nils]]),
  ([.agg [j 10,.nils],.agg [j 8,.nils]],.tup [.agg [j 1,.nils],.agg [j 2,.nils]]),
  ([.agg [j 8,.nils],.agg [j 2,.nils]],.tup [.agg [j 4,.nils],.agg [j 0,.nils]]),
  ([.agg [j 10,.nils],.agg [j 2,.nils]],.tup [.agg [j 5,.nils],.agg [j 0,.nils]]),
  ([.agg [j 4,.nils],.agg [j 4,.nils]],.tup [.agg [j 1,.nils],.agg [j 0,.nils]])]
def k9 : List (Nat × Ent) := [(163,e9_163),(164,e9_164)]
theorem k9_ok : chunkOk prog lib t0 k9 = true := by decide +kernel
def e10_164 : Ent := [([.agg [j 1,.nils],.agg [j 2,.nils]],.tup [.agg [j 0,.nils],.agg [j 1,.nils]]),
  ([.agg [j 2,.nils],.agg [j 1,.nils]],.tup [.agg [j 2,.nils],.agg [j 0,.nils]]),
  ([.agg [j 0,.nils],.agg [j 2,.nils]],.tup [.agg [j 0,.nils],.agg [j 0,.nils]]),
  ([.agg [j 2,.nils],.agg [j 2,.nils]],.tup [.agg [j 1,.nils],.agg [j 0,.nils]]),
  ([.agg [j 0,.nils],.agg [j 1,.nils]],.tup [.agg [j 0,.nils],.agg [j 0,.nils]]),
  ([.agg [j 0,.nils],.agg [j 4,.nils]],.tup [.agg [j 0,.nils],.agg [j 0,.nils]]),
  ([.agg [j 2,.nils],.agg [j 4,.nils]],.tup [.agg [j 0,.nils],.agg [j 2,.nils]]),
  ([.agg [j 3,.nils],.agg [j 4,.nils]],.tup [.agg [j 0,.nils],.agg [j 3,.nils]]),
  ([.agg [j 4,.nils],.agg [j 3,.nils]],.tup [.agg [j 1,.nils],.agg [j 1,.nils]]),
  ([.agg [j 3,.nils],.agg [j 1,.nils]],.tup [.agg [j 3,.nils],.agg [j 0,.nils]]),
  ([.agg [j 6,.nils],.agg [j 8,.nils]],.tup [.agg [j 0,.nils],.agg [j 6,.nils]]),
  ([.agg [j 8,.nils],.agg [j 6,.nils]],.tup [.agg [j 1,.nils],.agg [j 2,.nils]]),
  ([.agg [j 24,.nils],.agg [j 16,.nils]],.tup [.agg [j 1,.nils],.agg [j 8,.nils]]),
  ([.agg [j 16,.nils],.agg [j 8,.nils]],.tup [.agg [j 2,.nils],.agg [j 0,.nils]]),
  ([.agg [j 24,.nils],.agg [j 8,.nils]],.tup [.agg [j 3,.nils],.agg [j 0,.nils]]),
  ([.agg [j 3,.nils],.agg [j 2,.nils]],.tup [.agg [j 1,.nils],.agg [j 1,.nils]]),
  ([.agg [j 1,.nils],.agg [j 10,.nils]],.tup [.agg [j 0,.nils],.agg [j 1,.nils]]),
  ([.agg [j 10,.nils],.agg [j 1,.nils]],.tup [.agg [j 10,.nils],.agg [j 0,.nils]]),
  ([.agg [j 5,.nils],.agg [j 10,.nils]],.tup [.agg [j 0,.nils],.agg [j 5,.nils]]),
  ([.agg [j 10,.nils],.agg [j 5,.nils]],.tup [.agg [j 2,.nils],.agg [j 0,.nils]])]
def k10 : List (Nat × Ent) := [(164,e10_164)]
theorem k10_ok : chunkOk prog lib t0 k10 = true := by decide +kernel
def e11_164 : Ent := [([.agg [j 5,.nils],.agg [j 5,.nils]],.tup [.agg [j 1,.nils],.agg [j 0,.nils]]),
  ([.agg [j 1,.nils],.agg [j 8,.nils]],.tup [.agg [j 0,.nils],.agg [j 1,.nils]]),
  ([.agg [j 8,.nils],.agg [j 1,.nils]],.tup [.agg [j 8,.nils],.agg [j 0,.nils]]),
  ([.agg [j 1,.nils],.agg [j 12,.nils]],.tup [.agg [j 0,.nils],.agg [j 1,.nils]]),
  ([.agg [j 12,.nils],.agg [j 1,.nils]],.tup [.agg [j 12,.nils],.agg [j 0,.nils]]),
  ([.agg [j 4,.nils],.agg [j 96,.nils]],.tup [.agg [j 0,.nils],.agg [j 4,.nils]]),
  ([.agg [j 96,.nils],.agg [j 4,.nils]],.tup [.agg [j 24,.nils],.agg [j 0,.nils]]),
  ([.agg [j 1,.nils],.agg [j 24,.nils]],.tup [.agg [j 0,.nils],.agg [j 1,.nils]]),
  ([.agg [j 24,.nils],.agg [j 1,.nils]],.tup [.agg [j 24,.nils],.agg [j 0,.nils]]),
  ([.agg [j 0,.nils],.agg [j 24,.nils]],.tup [.agg [j 0,.nils],.agg [j 0,.nils]]),
  ([.agg [j 24,.nils],.agg [j 24,.nils]],.tup [.agg [j 1,.nils],.agg [j 0,.nils]]),
  ([.agg [j 1,.nils],.agg [j 3,.nils]],.tup [.agg [j 0,.nils],.agg [j 1,.nils]]),
  ([.agg [j 3,.nils],.agg [j 3,.nils]],.tup [.agg [j 1,.nils],.agg [j 0,.nils]])]
def k11 : List (Nat × Ent) := [(164,e11_164)]
theorem k11_ok : chunkOk prog lib t0 k11 = true := by decide +kernel
def l1_129 : Ent := e6_129
def l1_68 : Ent := e2_68
def l1_134 : Ent := e6_134
def l1_136 : Ent := e6_136
def l1_142 : Ent := e6_142 ++ (e7_142)
def l1_14 : Ent := e0_14
def l1_15 : Ent := e0_15
def l1_80 : Ent := e2_80
def l1_81 : Ent := e2_81
def l1_146 : Ent := e7_146 ++ (e8_146)
def l1_147 : Ent := e8_147
def l1_150 : Ent := e8_150
def l1_29 : Ent := e0_29
def l1_94 : Ent := e2_94
def l1_31 : Ent := e0_31
def l1_96 : Ent := e2_96 ++ (e3_96)
def l1_33 : Ent := e0_33 ++ (e1_33)
def l1_98 : Ent := e3_98
def l1_163 : Ent := e8_163 ++ (e9_163)
def l1_99 : Ent := e3_99 ++ (e4_99)
def l1_164 : Ent := e9_164 ++ (e10_164 ++ (e11_164))
def l1_38 : Ent := e1_38
def l1_44 : Ent := e1_44
def l1_47 : Ent := e1_47
def l1_48 : Ent := e1_48 ++ (e2_48)
def l1_117 : Ent := e4_117
def l1_118 : Ent := e4_118
def l1_119 : Ent := e4_119 ++ (e5_119)
def l1_59 : Ent := e2_59
def l1_124 : Ent := e5_124 ++ (e6_124)
def l1_125 : Ent := e6_125
def t1 : Tr Ent := (.n 98 l1_98 (.n 47 l1_47 (.n 31 l1_31 (.n 15 l1_15 (.n 14 l1_14 .l .l) (.n 29 l1_29 .l .l)) (.n 38 l1_38 (.n 33 l1_33 .l .l) (.n 44 l1_44 .l .l))) (.n 80 l1_80 (.n 59 l1_59 (.n 48 l1_48 .l .l) (.n 68 l1_68 .l .l)) (.n 94 l1_94 (.n 81 l1_81 .l .l) (.n 96 l1_96 .l .l)))) (.n 134 l1_134 (.n 119 l1_119 (.n 117 l1_117 (.n 99 l1_99 .l .l) (.n 118 l1_118 .l .l)) (.n 125 l1_125 (.n 124 l1_124 .l .l) (.n 129 l1_129 .l .l))) (.n 147 l1_147 (.n 142 l1_142 (.n 136 l1_136 .l .l) (.n 146 l1_146 .l .l)) (.n 163 l1_163 (.n 150 l1_150 .l .l) (.n 164 l1_164 .l .l)))))
theorem t1_ok {Λ : Link} (hΛ : LinkOk Λ) (hp : Λ.prog = prog) (hl : Λ.lib = lib) : t1.All (AllC Λ) := by
  have h := t0_ok hΛ hp hl
  have c0 := chunk_at hΛ hp hl h k0_ok
  have c1 := chunk_at hΛ hp hl h k1_ok
  have c2 := chunk_at hΛ hp hl h k2_ok
  have c3 := chunk_at hΛ hp hl h k3_ok
  have c4 := chunk_at hΛ hp hl h k4_ok
  have c5 := chunk_at hΛ hp hl h k5_ok
  have c6 := chunk_at hΛ hp hl h k6_ok
  have c7 := chunk_at hΛ hp hl h k7_ok
  have c8 := chunk_at hΛ hp hl h k8_ok
  have c9 := chunk_at hΛ hp hl h k9_ok
  have c10 := chunk_at hΛ hp hl h k10_ok
  have c11 := chunk_at hΛ hp hl h k11_ok
  exact (Tr.all_n (c3 _ _ (.tail _ (.head _))) (Tr.all_n (c1 _ _ (.tail _ (.tail _ (.tail _ (.head _))))) (Tr.all_n (c0 _ _ (.tail _ (.tail _ (.tail _ (.head _))))) (Tr.all_n (c0 _ _ (.tail _ (.head _))) (Tr.all_n (c0 _ _ (.head _)) Tr.all_l Tr.all_l) (Tr.all_n (c0 _ _ (.tail _ (.tail _ (.head _)))) Tr.all_l Tr.all_l)) (Tr.all_n (c1 _ _ (.tail _ (.head _))) (Tr.all_n (.app (c0 _ _ (.tail _ (.tail _ (.tail _ (.tail _ (.head _)))))) (c1 _ _ (.head _))) Tr.all_l Tr.all_l) (Tr.all_n (c1 _ _ (.tail _ (.tail _ (.head _)))) Tr.all_l Tr.all_l))) (Tr.all_n (c2 _ _ (.tail _ (.tail _ (.tail _ (.head _))))) (Tr.all_n (c2 _ _ (.tail _ (.head _))) (Tr.all_n (.app (c1 _ _ (.tail _ (.tail _ (.tail _ (.tail _ (.head _)))))) (c2 _ _ (.head _))) Tr.all_l Tr.all_l) (Tr.all_n (c2 _ _ (.tail _ (.tail _ (.head _)))) Tr.all_l Tr.all_l)) (Tr.all_n (c2 _ _ (.tail _ (.tail _ (.tail _ (.tail _ (.tail _ (.head _))))))) (Tr.all_n (c2 _ _ (.tail _ (.tail _ (.tail _ (.tail _ (.head _)))))) Tr.all_l Tr.all_l) (Tr.all_n (.app (c2 _ _ (.tail _ (.tail _ (.tail _ (.tail _ (.tail _ (.tail _ (.head _)))))))) (c3 _ _ (.head _))) Tr.all_l Tr.all_l)))) (Tr.all_n (c6 _ _ (.tail _ (.tail _ (.tail _ (.head _))))) (Tr.all_n (.app (c4 _ _ (.tail _ (.tail _ (.tail _ (.head _))))) (c5 _ _ (.head _))) (Tr.all_n (c4 _ _ (.tail _ (.head _))) (Tr.all_n (.app (c3 _ _ (.tail _ (.tail _ (.head _)))) (c4 _ _ (.head _))) Tr.all_l Tr.all_l) (Tr.all_n (c4 _ _ (.tail _ (.tail _ (.head _)))) Tr.all_l Tr.all_l)) (Tr.all_n (c6 _ _ (.tail _ (.head _))) (Tr.all_n (.app (c5 _ _ (.tail _ (.head _))) (c6 _ _ (.head _))) Tr.all_l Tr.all_l) (Tr.all_n (c6 _ _ (.tail _ (.tail _ (.head _)))) Tr.all_l Tr.all_l))) (Tr.all_n (c8 _ _ (.tail _ (.head _))) (Tr.all_n (.app (c6 _ _ (.tail _ (.tail _ (.tail _ (.tail _ (.tail _ (.head _))))))) (c7 _ _ (.head _))) (Tr.all_n (c6 _ _ (.tail _ (.tail _ (.tail _ (.tail _ (.head _)))))) Tr.all_l Tr.all_l) (Tr.all_n (.app (c7 _ _ (.tail _ (.head _))) (c8 _ _ (.head _))) Tr.all_l Tr.all_l)) (Tr.all_n (.app (c8 _ _ (.tail _ (.tail _ (.tail _ (.head _))))) (c9 _ _ (.head _))) (Tr.all_n (c8 _ _ (.tail _ (.tail _ (.head _)))) Tr.all_l Tr.all_l) (Tr.all_n (.app (c9 _ _ (.tail _ (.head _))) (.app (c10 _ _ (.head _)) (c11 _ _ (.head _)))) Tr.all_l Tr.all_l)))))
def e12_21 : Ent := [([.vsl true 2 [.vsl true 2 [j 1,j 0],.vsl true 2 [j 3,j 2]],.vsl true 2 [.vsl true 2 [j 1,j 0],.vsl true 2 [j 3,j 2]]],.bool true),
  ([.vsl true 2 [.vsl true 2 [j 1,j 2],.vsl true 2 [j 1,j 2]],.vsl true 2 [.vsl true 2 [j 1,j 2],.vsl true 2 [j 1,j 2]]],.bool true),
  ([.vsl true 2 [.vsl true 2 [j 2,j 4],.vsl true 2 [j 2,j 4]],.vsl true 2 [.vsl true 2 [j 2,j 4],.vsl true 2 [j 2,j 4]]],.bool true)]
def e12_23 : Ent := [([],.agg [.vsl true 2 [.vsl true 2 [j 0,j 1],.vsl true 2 [j 2,j 3]],.str [53],.str [49],.str [49,47,50],.str [48],.str [48],.str [49,47,50],.str [48]])]
def e12_28 : Ent := [([.vsl false 1 [.vsl true 4 [.str [49,47,50],.str [48],.str [48],.str [48]]],.vsl true 1 [.vsl true 4 [.str [49,47,50],.str [48],.str [48],.str [48]]]],.bool true)]
def e12_34 : Ent := [([j 1,j (-999999999),j 999999999],j 0),
  ([j 0,j (-999999999),j 999999999],j 0),
  ([j 1,j 1,j 2147483646],j 0),
  ([j 2,j 1,j 16],j 0),
  ([j 1,j 0,j 1000],j 0)]
def e12_37 : Ent := [([j 0,.vsl true 5 [j 1,j 1,j 1,j 1,j 1],.fn (.f 38) [] []],j 5),
  ([j 0,.vsl false 1 [j 4],.fn (.f 81) [] []],j 4)]
def e12_46 : Ent := [([.agg [j 3,.nils,j 2,.nils]],.str [51,47,50]),
  ([.agg [j 5,.nils,j 4,.nils]],.str [53,47,52]),
  ([.agg [j 1,.nils,j 1,.nils]],.str [49]),
  ([.agg [j 1,.nils,j 2,.nils]],.str [49,47,50]),
  ([.agg [j 0,.nils,j 1,.nils]],.str [48]),
  ([.agg [j 1,.nils,j 24,.nils]],.str [49,47,50,52])]
def e12_63 : Ent := [([.agg [.str [49,47,49,48],.str [48],.str [48]],.agg [j 5,.nils,j 1,.nils]],.bool true),
  ([.agg [.str [48],.str [48],.str [48]],.agg [j 5,.nils,j 1,.nils]],.bool true)]
def k12 : List (Nat × Ent) := [(21,e12_21),(23,e12_23),(28,e12_28),(34,e12_34),(37,e12_37),(46,e12_46),(63,e12_63)]
theorem k12_ok : chunkOk prog lib t1 k12 = true := by decide +kernel
def e13_79 : Ent := [([.vsl true 1 [.vsl true 2 [.vsl true 2 [j 0,j 1],.vsl true 2 [j 2,j 3]],.str [53],.str [49],.str [49,47,50],.str [48],.str [48],.str [49,47,50],.str [48]],.fn (.f 80) [] []],.fsl false 1 1 [j 4])]
def e13_86 : Ent := [([.str [48]],j 0),
  ([.str [53]],j 0),
  ([.str [49]],j 0),
  ([.str [49,48]],j 0),
  ([.str [52]],j 0),
  ([.str [51]],j 0)]
def e13_97 : Ent := [([.vsl true 2 [.vsl true 2 [j 0,j 1],.vsl true 2 [j 2,j 3]],j 1,j 0],j 1),
  ([.vsl true 2 [.vsl true 2 [j 0,j 1],.vsl true 2 [j 2,j 3]],j 2,j 0],j 0),
  ([.vsl true 2 [.vsl true 2 [j 0,j 1],.vsl true 2 [j 2,j 3]],j 1,j 1],j 3),
  ([.vsl true 2 [.vsl true 2 [j 0,j 1],.vsl true 2 [j 2,j 3]],j 2,j 1],j 2),
  ([.vsl true 2 [.vsl true 2 [j 0,j 1],.vsl true 2 [j 2,j 3]],j (-1),j 0],j 1),
  ([.vsl true 2 [.vsl true 2 [j 0,j 1],.vsl true 2 [j 2,j 3]],j 0,j 0],j 0),
  ([.vsl true 2 [.vsl true 2 [j 0,j 1],.vsl true 2 [j 2,j 3]],j (-1),j 1],j 3),
  ([.vsl true 2 [.vsl true 2 [j 0,j 1],.vsl true 2 [j 2,j 3]],j 0,j 1],j 2),
  ([.vsl true 2 [.vsl true 2 [j 0,j 1],.vsl true 2 [j 2,j 3]],j (-1),j (-1)],j 3),
  ([.vsl true 2 [.vsl true 2 [j 0,j 1],.vsl true 2 [j 2,j 3]],j 0,j (-1)],j 2),
  ([.vsl true 2 [.vsl true 2 [j 0,j 1],.vsl true 2 [j 2,j 3]],j 1,j (-1)],j 3),
  ([.vsl true 2 [.vsl true 2 [j 0,j 1],.vsl true 2 [j 2,j 3]],j 2,j (-1)],j 2),
  ([.vsl true 2 [.vsl true 2 [j 0,j 1],.vsl true 2 [j 2,j 3]],j (-1),j 2],j 1)]
def k13 : List (Nat × Ent) := [(79,e13_79),(86,e13_86),(97,e13_97)]
theorem k13_ok : chunkOk prog lib t1 k13 = true := by decide +kernel
def e14_97 : Ent := [([.vsl true 2 [.vsl true 2 [j 0,j 1],.vsl true 2 [j 2,j 3]],j 0,j 2],j 0),
  ([.vsl true 2 [.vsl true 2 [j 0,j 1],.vsl true 2 [j 2,j 3]],j 1,j 2],j 1),
  ([.vsl true 2 [.vsl true 2 [j 0,j 1],.vsl true 2 [j 2,j 3]],j 2,j 2],j 0)]
def e14_100 : Ent := [([.agg [j 6,.nils],.agg [j 1,.nils]],.agg [j 6,.nils]),
  ([.agg [j 1,.nils],.agg [j 4,.nils]],.agg [j 4,.nils]),
  ([.agg [j 14,.nils],.agg [j 1,.nils]],.agg [j 14,.nils]),
  ([.agg [j 3,.nils],.agg [j 3,.nils]],.agg [j 9,.nils]),
  ([.agg [j 2,.nils],.agg [j 2,.nils]],.agg [j 4,.nils]),
  ([.agg [j 7,.nils],.agg [j 4,.nils]],.agg [j 28,.nils]),
  ([.agg [j (-9),.nils],.agg [j 2,.nils]],.agg [j (-18),.nils]),
  ([.agg [j 2,.nils],.agg [j 4,.nils]],.agg [j 8,.nils]),
  ([.agg [j 4,.nils],.agg [j 1,.nils]],.agg [j 4,.nils]),
  ([.agg [j 1,.nils],.agg [j 10,.nils]],.agg [j 10,.nils]),
  ([.agg [j 0,.nils],.agg [j 10,.nils]],.agg [j 0,.nils]),
  ([.agg [j 0,.nils],.agg [j 1,.nils]],.agg [j 0,.nils]),
  ([.agg [j 1,.nils],.agg [j 2,.nils]],.agg [j 2,.nils]),
  ([.agg [j 2,.nils],.agg [j 0,.nils]],.agg [j 0,.nils]),
  ([.agg [j 1,.nils],.agg [j 1,.nils]],.agg [j 1,.nils]),
  ([.agg [j 0,.nils],.agg [j 2,.nils]],.agg [j 0,.nils]),
  ([.agg [j 2,.nils],.agg [j 1,.nils]],.agg [j 2,.nils])]
def k14 : List (Nat × Ent) := [(97,e14_97),(100,e14_100)]
theorem k14_ok : chunkOk prog lib t1 k14 = true := by decide +kernel
def e15_100 : Ent := [([.agg [j (-1),.nils],.agg [j 1,.nils]],.agg [j (-1),.nils]),
  ([.agg [j 1,.nils],.agg [j 0,.nils]],.agg [j 0,.nils]),
  ([.agg [j 1,.nils],.agg [j 3,.nils]],.agg [j 3,.nils]),
  ([.agg [j 0,.nils],.agg [j 4,.nils]],.agg [j 0,.nils]),
  ([.agg [j 4,.nils],.agg [j 2,.nils]],.agg [j 8,.nils]),
  ([.agg [j 3,.nils],.agg [j 4,.nils]],.agg [j 12,.nils]),
  ([.agg [j 4,.nils],.agg [j 4,.nils]],.agg [j 16,.nils]),
  ([.agg [j 3,.nils],.agg [j 1,.nils]],.agg [j 3,.nils]),
  ([.agg [j (-1),.nils],.agg [j 2,.nils]],.agg [j (-2),.nils]),
  ([.agg [j 0,.nils],.agg [j 3,.nils]],.agg [j 0,.nils]),
  ([.agg [j 10,.nils],.agg [j 10,.nils]],.agg [j 100,.nils]),
  ([.agg [j 1,.nils],.agg [j 100,.nils]],.agg [j 100,.nils]),
  ([.agg [j 0,.nils],.agg [j 100,.nils]],.agg [j 0,.nils]),
  ([.agg [j 1,.nils],.agg [j 5,.nils]],.agg [j 5,.nils]),
  ([.agg [j 10,.nils],.agg [j 1,.nils]],.agg [j 10,.nils]),
  ([.agg [j 0,.nils],.agg [j 5,.nils]],.agg [j 0,.nils]),
  ([.agg [j 5,.nils],.agg [j 1,.nils]],.agg [j 5,.nils]),
  ([.agg [j 0,.nils],.agg [j 0,.nils]],.agg [j 0,.nils]),
  ([.agg [j 1,.nils],.agg [j 12,.nils]],.agg [j 12,.nils]),
  ([.agg [j (-1),.nils],.agg [j 8,.nils]],.agg [j (-8),.nils])]
def k15 : List (Nat × Ent) := [(100,e15_100)]
theorem k15_ok : chunkOk prog lib t1 k15 = true := by decide +kernel
def e16_100 : Ent := [([.agg [j 8,.nils],.agg [j 12,.nils]],.agg [j 96,.nils]),
  ([.agg [j 1,.nils],.agg [j 24,.nils]],.agg [j 24,.nils])]
def e16_101 : Ent := [([.agg [j 0,.nils],.agg [j 1,.nils]],.agg [j 0,.nils,j 1,.nils]),
  ([.agg [j 1,.nils],.agg [j 1,.nils]],.agg [j 1,.nils,j 1,.nils]),
  ([.agg [j 3,.nils],.agg [j 1,.nils]],.agg [j 3,.nils,j 1,.nils])]
def e16_102 : Ent := [([.agg [j 9,.nils,j 4,.nils]],.agg [j (-9),.nils,j 4,.nils]),
  ([.agg [j 0,.nils,j 1,.nils]],.agg [j 0,.nils,j 1,.nils]),
  ([.agg [j 1,.nils,j 2,.nils]],.agg [j (-1),.nils,j 2,.nils]),
  ([.agg [j 1,.nils,j 1,.nils]],.agg [j (-1),.nils,j 1,.nils]),
  ([.agg [j 2,.nils,j 1,.nils]],.agg [j (-2),.nils,j 1,.nils]),
  ([.agg [j 1,.nils,j 12,.nils]],.agg [j (-1),.nils,j 12,.nils])]
def e16_105 : Ent := [([.agg [j 0,j 0,j 1,.nils,j 2,.nils,j 1,.nils,j 2,.nils],j 0,j 2],.tup [j 0,j 0]),
  ([.agg [j 0,j 0,j 1,.nils,j 2,.nils,j 1,.nils,j 2,.nils],j 1,j 2],.tup [j 1,j 0]),
  ([.agg [j 0,j 0,j 1,.nils,j 2,.nils,j 1,.nils,j 2,.nils],j 2,j 2],.tup [j 0,j 1]),
  ([.agg [j 0,j 0,j 1,.nils,j 2,.nils,j 1,.nils,j 2,.nils],j 3,j 2],.tup [j 1,j 1]),
  ([.agg [j 1,j 0,j 1,.nils,j 2,.nils,j 0,.nils,j 1,.nils],j 0,j 2],.tup [j 1,j 0]),
  ([.agg [j 1,j 0,j 1,.nils,j 2,.nils,j 0,.nils,j 1,.nils],j 1,j 2],.tup [j 0,j 0]),
  ([.agg [j 1,j 0,j 1,.nils,j 2,.nils,j 0,.nils,j 1,.nils],j 2,j 2],.tup [j 1,j 1]),
  ([.agg [j 1,j 0,j 1,.nils,j 2,.nils,j 0,.nils,j 1,.nils],j 3,j 2],.tup [j 0,j 1]),
  ([.agg [j 1,j 1,j 0,.nils,j 1,.nils,j 0,.nils,j 1,.nils],j 0,j 2],.tup [j 1,j 1])]
def k16 : List (Nat × Ent) := [(100,e16_100),(101,e16_101),(102,e16_102),(105,e16_105)]
theorem k16_ok : chunkOk prog lib t1 k16 = true := by decide +kernel
def e17_105 : Ent := [([.agg [j 1,j 1,j 0,.nils,j 1,.nils,j 0,.nils,j 1,.nils],j 1,j 2],.tup [j 0,j 1]),
  ([.agg [j 1,j 1,j 0,.nils,j 1,.nils,j 0,.nils,j 1,.nils],j 2,j 2],.tup [j 1,j 0]),
  ([.agg [j 1,j 1,j 0,.nils,j 1,.nils,j 0,.nils,j 1,.nils],j 3,j 2],.tup [j 0,j 0]),
  ([.agg [j 0,j 0,j 0,.nils,j 1,.nils,j 1,.nils,j 2,.nils],j 0,j 2],.tup [j 0,j 0]),
  ([.agg [j 0,j 0,j 0,.nils,j 1,.nils,j 1,.nils,j 2,.nils],j 1,j 2],.tup [j 1,j 0]),
  ([.agg [j 0,j 0,j 0,.nils,j 1,.nils,j 1,.nils,j 2,.nils],j 2,j 2],.tup [j 0,j 1]),
  ([.agg [j 0,j 0,j 0,.nils,j 1,.nils,j 1,.nils,j 2,.nils],j 3,j 2],.tup [j 1,j 1]),
  ([.agg [j 0,j 0,j 0,.nils,j 1,.nils,j 0,.nils,j 1,.nils],j 0,j 2],.tup [j 0,j 0]),
  ([.agg [j 0,j 0,j 0,.nils,j 1,.nils,j 0,.nils,j 1,.nils],j 1,j 2],.tup [j 1,j 0]),
  ([.agg [j 0,j 0,j 0,.nils,j 1,.nils,j 0,.nils,j 1,.nils],j 2,j 2],.tup [j 0,j 1]),
  ([.agg [j 0,j 0,j 0,.nils,j 1,.nils,j 0,.nils,j 1,.nils],j 3,j 2],.tup [j 1,j 1])]
def e17_108 : Ent := [([.agg [j 0,.nils,j 1,.nils]],j 0),
  ([.agg [j 5,.nils,j 1,.nils]],j 1),
  ([.agg [j 10,.nils,j 1,.nils]],j 1),
  ([.agg [j 1,.nils,j 1,.nils]],j 1),
  ([.agg [j 4,.nils,j 1,.nils]],j 1)]
def e17_111 : Ent := [([.agg [j 6,.nils]],.agg [j 6,.nils,j 1,.nils]),
  ([.agg [j 4,.nils]],.agg [j 4,.nils,j 1,.nils]),
  ([.agg [j 14,.nils]],.agg [j 14,.nils,j 1,.nils]),
  ([.agg [j 0,.nils]],.agg [j 0,.nils,j 1,.nils])]
def k17 : List (Nat × Ent) := [(105,e17_105),(108,e17_108),(111,e17_111)]
theorem k17_ok : chunkOk prog lib t1 k17 = true := by decide +kernel
def e18_111 : Ent := [([.agg [j 2,.nils]],.agg [j 2,.nils,j 1,.nils]),
  ([.agg [j 1,.nils]],.agg [j 1,.nils,j 1,.nils]),
  ([.agg [j 3,.nils]],.agg [j 3,.nils,j 1,.nils]),
  ([.agg [j 5,.nils]],.agg [j 5,.nils,j 1,.nils]),
  ([.agg [j 10,.nils]],.agg [j 10,.nils,j 1,.nils]),
  ([.agg [j 8,.nils]],.agg [j 8,.nils,j 1,.nils]),
  ([.agg [j 12,.nils]],.agg [j 12,.nils,j 1,.nils])]
def e18_130 : Ent := [([.agg [j 1,.nils],.agg [j 4,.nils]],.agg [j 1,.nils]),
  ([.agg [j 6,.nils],.agg [j 4,.nils]],.agg [j 2,.nils]),
  ([.agg [j 14,.nils],.agg [j 4,.nils]],.agg [j 2,.nils]),
  ([.agg [j 9,.nils],.agg [j 4,.nils]],.agg [j 1,.nils]),
  ([.agg [j 10,.nils],.agg [j 8,.nils]],.agg [j 2,.nils]),
  ([.agg [j 4,.nils],.agg [j 4,.nils]],.agg [j 4,.nils]),
  ([.agg [j 1,.nils],.agg [j 2,.nils]],.agg [j 1,.nils]),
  ([.agg [j 0,.nils],.agg [j 2,.nils]],.agg [j 2,.nils]),
  ([.agg [j 0,.nils],.agg [j 4,.nils]],.agg [j 4,.nils]),
  ([.agg [j 2,.nils],.agg [j 4,.nils]],.agg [j 2,.nils]),
  ([.agg [j 3,.nils],.agg [j 4,.nils]],.agg [j 1,.nils]),
  ([.agg [j 6,.nils],.agg [j 8,.nils]],.agg [j 2,.nils]),
  ([.agg [j 24,.nils],.agg [j 16,.nils]],.agg [j 8,.nils])]
def k18 : List (Nat × Ent) := [(111,e18_111),(130,e18_130)]
theorem k18_ok : chunkOk prog lib t1 k18 = true := by decide +kernel
def e19_130 : Ent := [([.agg [j 3,.nils],.agg [j 2,.nils]],.agg [j 1,.nils]),
  ([.agg [j 1,.nils],.agg [j 10,.nils]],.agg [j 1,.nils]),
  ([.agg [j 5,.nils],.agg [j 10,.nils]],.agg [j 5,.nils]),
  ([.agg [j 2,.nils],.agg [j 2,.nils]],.agg [j 2,.nils]),
  ([.agg [j 4,.nils],.agg [j 2,.nils]],.agg [j 2,.nils]),
  ([.agg [j 1,.nils],.agg [j 8,.nils]],.agg [j 1,.nils]),
  ([.agg [j 1,.nils],.agg [j 12,.nils]],.agg [j 1,.nils]),
  ([.agg [j 4,.nils],.agg [j 96,.nils]],.agg [j 4,.nils]),
  ([.agg [j 1,.nils],.agg [j 24,.nils]],.agg [j 1,.nils]),
  ([.agg [j 0,.nils],.agg [j 24,.nils]],.agg [j 24,.nils]),
  ([.agg [j 1,.nils],.agg [j 3,.nils]],.agg [j 1,.nils]),
  ([.agg [j 3,.nils],.agg [j 3,.nils]],.agg [j 3,.nils])]
def e19_132 : Ent := [([.vsl true 2 [j 0,j 1],.fn (.f 94) [] [.vptr [j 1000]]],j (-1)),
  ([.vsl true 2 [j 2,j 3],.fn (.f 94) [] [.vptr [j 1000]]],j (-1)),
  ([.vsl true 3 [j 0,j 1,j 0],.fn (.f 94) [] [.vptr [j 100]]],j (-1)),
  ([.vsl true 3 [j 0,j 0,j 0],.fn (.f 94) [] [.vptr [j 100]]],j (-1)),
  ([.vsl true 2 [j 2,j 4],.fn (.f 94) [] [.vptr [j 1000]]],j (-1))]
def e19_136 : Ent := [([.agg [j 3,.nils]],.tup [.bool false,.fsl true 1 1 [.int .u64 3]]),
  ([.agg [j 2,.nils]],.tup [.bool false,.fsl true 1 1 [.int .u64 2]]),
  ([.agg [j 1,.nils]],.tup [.bool false,.fsl true 1 1 [.int .u64 1]])]
def k19 : List (Nat × Ent) := [(130,e19_130),(132,e19_132),(136,e19_136)]
theorem k19_ok : chunkOk prog lib t1 k19 = true := by decide +kernel
def e20_136 : Ent := [([.agg [j 24,.nils]],.tup [.bool false,.fsl true 1 1 [.int .u64 24]])]
def e20_148 : Ent := [([.agg [j 1,.nils],.agg [j 1,.nils]],.agg [j 1,.nils]),
  ([.agg [j 4,.nils],.agg [j 1,.nils]],.agg [j 4,.nils]),
  ([.agg [j 6,.nils],.agg [j 2,.nils]],.agg [j 3,.nils]),
  ([.agg [j 4,.nils],.agg [j 2,.nils]],.agg [j 2,.nils]),
  ([.agg [j 14,.nils],.agg [j 2,.nils]],.agg [j 7,.nils]),
  ([.agg [j 9,.nils],.agg [j 1,.nils]],.agg [j 9,.nils]),
  ([.agg [j 10,.nils],.agg [j 2,.nils]],.agg [j 5,.nils]),
  ([.agg [j 8,.nils],.agg [j 2,.nils]],.agg [j 4,.nils]),
  ([.agg [j 4,.nils],.agg [j 4,.nils]],.agg [j 1,.nils]),
  ([.agg [j 2,.nils],.agg [j 1,.nils]],.agg [j 2,.nils]),
  ([.agg [j 0,.nils],.agg [j 2,.nils]],.agg [j 0,.nils]),
  ([.agg [j 2,.nils],.agg [j 2,.nils]],.agg [j 1,.nils]),
  ([.agg [j 0,.nils],.agg [j 4,.nils]],.agg [j 0,.nils]),
  ([.agg [j 3,.nils],.agg [j 1,.nils]],.agg [j 3,.nils]),
  ([.agg [j 24,.nils],.agg [j 8,.nils]],.agg [j 3,.nils]),
  ([.agg [j 16,.nils],.agg [j 8,.nils]],.agg [j 2,.nils]),
  ([.agg [j 5,.nils],.agg [j 5,.nils]],.agg [j 1,.nils]),
  ([.agg [j 10,.nils],.agg [j 5,.nils]],.agg [j 2,.nils]),
  ([.agg [j 10,.nils],.agg [j 1,.nils]],.agg [j 10,.nils])]
def k20 : List (Nat × Ent) := [(136,e20_136),(148,e20_148)]
theorem k20_ok : chunkOk prog lib t1 k20 = true := by decide +kernel
def e21_148 : Ent := [([.agg [j 8,.nils],.agg [j 1,.nils]],.agg [j 8,.nils]),
  ([.agg [j 12,.nils],.agg [j 1,.nils]],.agg [j 12,.nils]),
  ([.agg [j 96,.nils],.agg [j 4,.nils]],.agg [j 24,.nils]),
  ([.agg [j 24,.nils],.agg [j 1,.nils]],.agg [j 24,.nils]),
  ([.agg [j 0,.nils],.agg [j 24,.nils]],.agg [j 0,.nils]),
  ([.agg [j 24,.nils],.agg [j 24,.nils]],.agg [j 1,.nils]),
  ([.agg [j 3,.nils],.agg [j 3,.nils]],.agg [j 1,.nils])]
def e21_149 : Ent := [([.agg [j 1,.nils,j 2,.nils]],.agg [j 0,.nils]),
  ([.agg [j 0,.nils,j 1,.nils]],.agg [j 0,.nils]),
  ([.agg [j 3,.nils,j 2,.nils]],.agg [j 1,.nils]),
  ([.agg [j 1,.nils,j 1,.nils]],.agg [j 1,.nils])]
def e21_172 : Ent := [([.agg [j 0,.nils]],j 0)]
def k21 : List (Nat × Ent) := [(148,e21_148),(149,e21_149),(172,e21_172)]
theorem k21_ok : chunkOk prog lib t1 k21 = true := by decide +kernel
def l2_97 : Ent := e13_97 ++ (e14_97)
def l2_130 : Ent := e18_130 ++ (e19_130)
def l2_34 : Ent := e12_34
def l2_132 : Ent := e19_132
def l2_100 : Ent := e14_100 ++ (e15_100 ++ (e16_100))
def l2_37 : Ent := e12_37
def l2_101 : Ent := e16_101
def l2_102 : Ent := e16_102
def l2_136 : Ent := e19_136 ++ (e20_136 ++ (l1_136))
def l2_105 : Ent := e16_105 ++ (e17_105)
def l2_172 : Ent := e21_172
def l2_108 : Ent := e17_108
def l2_46 : Ent := e12_46
def l2_111 : Ent := e17_111 ++ (e18_111)
def l2_79 : Ent := e13_79
def l2_148 : Ent := e20_148 ++ (e21_148)
def l2_149 : Ent := e21_149
def l2_21 : Ent := e12_21
def l2_86 : Ent := e13_86
def l2_23 : Ent := e12_23
def l2_28 : Ent := e12_28
def l2_63 : Ent := e12_63
def t2 : Tr Ent := (.n 99 l1_99 (.n 47 l1_47 (.n 31 l1_31 (.n 23 l2_23 (.n 15 l1_15 (.n 14 l1_14 .l .l) (.n 21 l2_21 .l .l)) (.n 29 l1_29 (.n 28 l2_28 .l .l) .l)) (.n 38 l1_38 (.n 34 l2_34 (.n 33 l1_33 .l .l) (.n 37 l2_37 .l .l)) (.n 46 l2_46 (.n 44 l1_44 .l .l) .l))) (.n 81 l1_81 (.n 68 l1_68 (.n 59 l1_59 (.n 48 l1_48 .l .l) (.n 63 l2_63 .l .l)) (.n 80 l1_80 (.n 79 l2_79 .l .l) .l)) (.n 96 l1_96 (.n 94 l1_94 (.n 86 l2_86 .l .l) .l) (.n 98 l1_98 (.n 97 l2_97 .l .l) .l)))) (.n 130 l2_130 (.n 117 l1_117 (.n 105 l2_105 (.n 101 l2_101 (.n 100 l2_100 .l .l) (.n 102 l2_102 .l .l)) (.n 111 l2_111 (.n 108 l2_108 .l .l) .l)) (.n 124 l1_124 (.n 119 l1_119 (.n 118 l1_118 .l .l) .l) (.n 129 l1_129 (.n 125 l1_125 .l .l) .l))) (.n 148 l2_148 (.n 142 l1_142 (.n 134 l1_134 (.n 132 l2_132 .l .l) (.n 136 l2_136 .l .l)) (.n 147 l1_147 (.n 146 l1_146 .l .l) .l)) (.n 163 l1_163 (.n 150 l1_150 (.n 149 l2_149 .l .l) .l) (.n 172 l2_172 (.n 164 l1_164 .l .l) .l)))))
theorem t2_ok {Λ : Link} (hΛ : LinkOk Λ) (hp : Λ.prog = prog) (hl : Λ.lib = lib) : t2.All (AllC Λ) := by
  have h := t1_ok hΛ hp hl
  have c12 := chunk_at hΛ hp hl h k12_ok
  have c13 := chunk_at hΛ hp hl h k13_ok
  have c14 := chunk_at hΛ hp hl h k14_ok
  have c15 := chunk_at hΛ hp hl h k15_ok
  have c16 := chunk_at hΛ hp hl h k16_ok
  have c17 := chunk_at hΛ hp hl h k17_ok
  have c18 := chunk_at hΛ hp hl h k18_ok
  have c19 := chunk_at hΛ hp hl h k19_ok
  have c20 := chunk_at hΛ hp hl h k20_ok
  have c21 := chunk_at hΛ hp hl h k21_ok
  exact (Tr.all_n (Tr.all_find h rfl) (Tr.all_n (Tr.all_find h rfl) (Tr.all_n (Tr.all_find h rfl) (Tr.all_n (c12 _ _ (.tail _ (.head _))) (Tr.all_n (Tr.all_find h rfl) (Tr.all_n (Tr.all_find h rfl) Tr.all_l Tr.all_l) (Tr.all_n (c12 _ _ (.head _)) Tr.all_l Tr.all_l)) (Tr.all_n (Tr.all_find h rfl) (Tr.all_n (c12 _ _ (.tail _ (.tail _ (.head _)))) Tr.all_l Tr.all_l) Tr.all_l)) (Tr.all_n (Tr.all_find h rfl) (Tr.all_n (c12 _ _ (.tail _ (.tail _ (.tail _ (.head _))))) (Tr.all_n (Tr.all_find h rfl) Tr.all_l Tr.all_l) (Tr.all_n (c12 _ _ (.tail _ (.tail _ (.tail _ (.tail _ (.head _)))))) Tr.all_l Tr.all_l)) (Tr.all_n (c12 _ _ (.tail _ (.tail _ (.tail _ (.tail _ (.tail _ (.head _))))))) (Tr.all_n (Tr.all_find h rfl) Tr.all_l Tr.all_l) Tr.all_l))) (Tr.all_n (Tr.all_find h rfl) (Tr.all_n (Tr.all_find h rfl) (Tr.all_n (Tr.all_find h rfl) (Tr.all_n (Tr.all_find h rfl) Tr.all_l Tr.all_l) (Tr.all_n (c12 _ _ (.tail _ (.tail _ (.tail _ (.tail _ (.tail _ (.tail _ (.head _)))))))) Tr.all_l Tr.all_l)) (Tr.all_n (Tr.all_find h rfl) (Tr.all_n (c13 _ _ (.head _)) Tr.all_l Tr.all_l) Tr.all_l)) (Tr.all_n (Tr.all_find h rfl) (Tr.all_n (Tr.all_find h rfl) (Tr.all_n (c13 _ _ (.tail _ (.head _))) Tr.all_l Tr.all_l) Tr.all_l) (Tr.all_n (Tr.all_find h rfl) (Tr.all_n (.app (c13 _ _ (.tail _ (.tail _ (.head _)))) (c14 _ _ (.head _))) Tr.all_l Tr.all_l) Tr.all_l)))) (Tr.all_n (.app (c18 _ _ (.tail _ (.head _))) (c19 _ _ (.head _))) (Tr.all_n (Tr.all_find h rfl) (Tr.all_n (.app (c16 _ _ (.tail _ (.tail _ (.tail _ (.head _))))) (c17 _ _ (.head _))) (Tr.all_n (c16 _ _ (.tail _ (.head _))) (Tr.all_n (.app (c14 _ _ (.tail _ (.head _))) (.app (c15 _ _ (.head _)) (c16 _ _ (.head _)))) Tr.all_l Tr.all_l) (Tr.all_n (c16 _ _ (.tail _ (.tail _ (.head _)))) Tr.all_l Tr.all_l)) (Tr.all_n (.app (c17 _ _ (.tail _ (.tail _ (.head _)))) (c18 _ _ (.head _))) (Tr.all_n (c17 _ _ (.tail _ (.head _))) Tr.all_l Tr.all_l) Tr.all_l)) (Tr.all_n (Tr.all_find h rfl) (Tr.all_n (Tr.all_find h rfl) (Tr.all_n (Tr.all_find h rfl) Tr.all_l Tr.all_l) Tr.all_l) (Tr.all_n (Tr.all_find h rfl) (Tr.all_n (Tr.all_find h rfl) Tr.all_l Tr.all_l) Tr.all_l))) (Tr.all_n (.app (c20 _ _ (.tail _ (.head _))) (c21 _ _ (.head _))) (Tr.all_n (Tr.all_find h rfl) (Tr.all_n (Tr.all_find h rfl) (Tr.all_n (c19 _ _ (.tail _ (.head _))) Tr.all_l Tr.all_l) (Tr.all_n (.app (c19 _ _ (.tail _ (.tail _ (.head _)))) (.app (c20 _ _ (.head _)) (Tr.all_find h rfl))) Tr.all_l Tr.all_l)) (Tr.all_n (Tr.all_find h rfl) (Tr.all_n (Tr.all_find h rfl) Tr.all_l Tr.all_l) Tr.all_l)) (Tr.all_n (Tr.all_find h rfl) (Tr.all_n (Tr.all_find h rfl) (Tr.all_n (c21 _ _ (.tail _ (.head _))) Tr.all_l Tr.all_l) Tr.all_l) (Tr.all_n (c21 _ _ (.tail _ (.tail _ (.head _)))) (Tr.all_n (Tr.all_find h rfl) Tr.all_l Tr.all_l) Tr.all_l)))))
def e22_36 : Ent := [([j 1],j 0)]
def e22_41 : Ent := [([j 0,j 0,.vptr [.vsl true 3 [.vsl true 3 [j 0,j 1,j 0],.vsl true 3 [j 0,j 1,j 0],.vsl true 3 [j 0,j 0,j 0]]],.vptr [.vsl true 2 [.vsl true 2 [j 0,j 1],.vsl true 2 [j 2,j 3]]],.vptr [j 1]],j 2),
  ([j 1,j 0,.vptr [.vsl true 3 [.vsl true 3 [j 0,j 1,j 0],.vsl true 3 [j 0,j 1,j 0],.vsl true 3 [j 0,j 0,j 0]]],.vptr [.vsl true 2 [.vsl true 2 [j 0,j 1],.vsl true 2 [j 2,j 3]]],.vptr [j 1]],j 4),
  ([j 0,j 1,.vptr [.vsl true 3 [.vsl true 3 [j 0,j 1,j 0],.vsl true 3 [j 0,j 1,j 0],.vsl true 3 [j 0,j 0,j 0]]],.vptr [.vsl true 2 [.vsl true 2 [j 0,j 1],.vsl true 2 [j 2,j 3]]],.vptr [j 1]],j 2),
  ([j 1,j 1,.vptr [.vsl true 3 [.vsl true 3 [j 0,j 1,j 0],.vsl true 3 [j 0,j 1,j 0],.vsl true 3 [j 0,j 0,j 0]]],.vptr [.vsl true 2 [.vsl true 2 [j 0,j 1],.vsl true 2 [j 2,j 3]]],.vptr [j 1]],j 4)]
def e22_49 : Ent := [([.agg [j 2,.nils,j 1,.nils],.agg [j 0,.nils,j 1,.nils]],.agg [j 0,.nils,j 1,.nils]),
  ([.agg [j 0,.nils,j 1,.nils],.agg [j 3,.nils,j 1,.nils]],.agg [j 0,.nils,j 1,.nils]),
  ([.agg [j 0,.nils,j 1,.nils],.agg [j 2,.nils,j 1,.nils]],.agg [j 0,.nils,j 1,.nils]),
  ([.agg [j 0,.nils,j 1,.nils],.agg [j 5,.nils,j 1,.nils]],.agg [j 0,.nils,j 1,.nils]),
  ([.agg [j 1,.nils,j 1,.nils],.agg [j 1,.nils,j 1,.nils]],.agg [j 1,.nils,j 1,.nils]),
  ([.agg [j 0,.nils,j 1,.nils],.agg [j 1,.nils,j 1,.nils]],.agg [j 0,.nils,j 1,.nils]),
  ([.agg [j 1,.nils,j 1,.nils],.agg [j 0,.nils,j 1,.nils]],.agg [j 0,.nils,j 1,.nils]),
  ([.agg [j 0,.nils,j 1,.nils],.agg [j 0,.nils,j 1,.nils]],.agg [j 0,.nils,j 1,.nils]),
  ([.agg [j 1,.nils,j 1,.nils],.agg [j 3,.nils,j 1,.nils]],.agg [j 3,.nils,j 1,.nils])]
def e22_51 : Ent := [([j 1],j 0),
  ([j 0],j 0)]
def e22_52 : Ent := [([j 0,j 0,.vptr [.vsl true 2 [.vsl true 2 [j 0,j 1],.vsl true 2 [j 2,j 3]]],.vptr [j 1],.vptr [j 0]],j 1),
  ([j 1,j 0,.vptr [.vsl true 2 [.vsl true 2 [j 0,j 1],.vsl true 2 [j 2,j 3]]],.vptr [j 1],.vptr [j 0]],j 1),
  ([j 0,j 1,.vptr [.vsl true 2 [.vsl true 2 [j 0,j 1],.vsl true 2 [j 2,j 3]]],.vptr [j 1],.vptr [j 0]],j 1),
  ([j 1,j 1,.vptr [.vsl true 2 [.vsl true 2 [j 0,j 1],.vsl true 2 [j 2,j 3]]],.vptr [j 1],.vptr [j 0]],j 1)]
def k22 : List (Nat × Ent) := [(36,e22_36),(41,e22_41),(49,e22_49),(51,e22_51),(52,e22_52)]
theorem k22_ok : chunkOk prog lib t2 k22 = true := by decide +kernel
def e23_53 : Ent := [([.agg [.str [48],.str [49]]],j 0),
  ([.agg [.str [48],.str [48]]],j 0),
  ([.agg [.str [49],.str [48]]],j 0)]
def e23_58 : Ent := [([j 0,j 0,.vptr [.vsl true 2 [.vsl true 2 [j 0,j 1],.vsl true 2 [j 2,j 3]]],.vptr [j 1],.vptr [j 0]],j 1),
  ([j 1,j 0,.vptr [.vsl true 2 [.vsl true 2 [j 0,j 1],.vsl true 2 [j 2,j 3]]],.vptr [j 1],.vptr [j 0]],j 0),
  ([j 0,j 1,.vptr [.vsl true 2 [.vsl true 2 [j 0,j 1],.vsl true 2 [j 2,j 3]]],.vptr [j 1],.vptr [j 0]],j 3),
  ([j 1,j 1,.vptr [.vsl true 2 [.vsl true 2 [j 0,j 1],.vsl true 2 [j 2,j 3]]],.vptr [j 1],.vptr [j 0]],j 2)]
def e23_69 : Ent := [([j 6],.agg [j 6,.nils,j 1,.nils]),
  ([j 4],.agg [j 4,.nils,j 1,.nils]),
  ([j 14],.agg [j 14,.nils,j 1,.nils]),
  ([j 2],.agg [j 2,.nils,j 1,.nils]),
  ([j 1],.agg [j 1,.nils,j 1,.nils]),
  ([j 0],.agg [j 0,.nils,j 1,.nils]),
  ([j 3],.agg [j 3,.nils,j 1,.nils])]
def e23_71 : Ent := [([.agg [j 5,.nils,j 1,.nils],.agg [j 10,.nils,j 1,.nils]],j (-1)),
  ([.agg [j 2,.nils,j 1,.nils],.agg [j 10,.nils,j 1,.nils]],j (-1))]
def e23_74 : Ent := [([.agg [j 0,.nils,j 1,.nils],.agg [j 0,.nils,j 1,.nils]],.agg [j 0,.nils,j 1,.nils]),
  ([.agg [j 1,.nils,j 1,.nils],.agg [j 0,.nils,j 1,.nils]],.agg [j 1,.nils,j 1,.nils]),
  ([.agg [j 1,.nils,j 1,.nils],.agg [j (-1),.nils,j 1,.nils]],.agg [j 0,.nils,j 1,.nils]),
  ([.agg [j 0,.nils,j 1,.nils],.agg [j 3,.nils,j 1,.nils]],.agg [j 3,.nils,j 1,.nils])]
def k23 : List (Nat × Ent) := [(53,e23_53),(58,e23_58),(69,e23_69),(71,e23_71),(74,e23_74)]
theorem k23_ok : chunkOk prog lib t2 k23 = true := by decide +kernel
def e24_74 : Ent := [([.agg [j 3,.nils,j 1,.nils],.agg [j 0,.nils,j 1,.nils]],.agg [j 3,.nils,j 1,.nils]),
  ([.agg [j 0,.nils,j 1,.nils],.agg [j 1,.nils,j 1,.nils]],.agg [j 1,.nils,j 1,.nils]),
  ([.agg [j 10,.nils,j 1,.nils],.agg [j (-2),.nils,j 1,.nils]],.agg [j 8,.nils,j 1,.nils]),
  ([.agg [j 10,.nils,j 1,.nils],.agg [j 2,.nils,j 1,.nils]],.agg [j 12,.nils,j 1,.nils]),
  ([.agg [j 1,.nils,j 1,.nils],.agg [j 1,.nils,j 1,.nils]],.agg [j 2,.nils,j 1,.nils]),
  ([.agg [j 2,.nils,j 1,.nils],.agg [j 1,.nils,j 1,.nils]],.agg [j 3,.nils,j 1,.nils])]
def e24_85 : Ent := [([.vsl true 1 [.str [51]],.fn (.f 86) [] []],.fsl false 1 1 [j 0])]
def e24_95 : Ent := [([.vsl true 2 [j 0,j 1],.fn (.f 94) [] [.vptr [j 1000]]],.bool false),
  ([.vsl true 2 [j 2,j 3],.fn (.f 94) [] [.vptr [j 1000]]],.bool false),
  ([.vsl true 3 [j 0,j 1,j 0],.fn (.f 94) [] [.vptr [j 100]]],.bool false),
  ([.vsl true 3 [j 0,j 0,j 0],.fn (.f 94) [] [.vptr [j 100]]],.bool false),
  ([.vsl true 2 [j 2,j 4],.fn (.f 94) [] [.vptr [j 1000]]],.bool false)]
def e24_101 : Ent := [([.agg [j 1,.nils],.agg [j 4,.nils]],.agg [j 1,.nils,j 4,.nils]),
  ([.agg [j 6,.nils],.agg [j 4,.nils]],.agg [j 3,.nils,j 2,.nils]),
  ([.agg [j 14,.nils],.agg [j 4,.nils]],.agg [j 7,.nils,j 2,.nils]),
  ([.agg [j 9,.nils],.agg [j 4,.nils]],.agg [j 9,.nils,j 4,.nils]),
  ([.agg [j 10,.nils],.agg [j 8,.nils]],.agg [j 5,.nils,j 4,.nils]),
  ([.agg [j 4,.nils],.agg [j 4,.nils]],.agg [j 1,.nils,j 1,.nils]),
  ([.agg [j 1,.nils],.agg [j 2,.nils]],.agg [j 1,.nils,j 2,.nils]),
  ([.agg [j 0,.nils],.agg [j 2,.nils]],.agg [j 0,.nils,j 1,.nils])]
def k24 : List (Nat × Ent) := [(74,e24_74),(85,e24_85),(95,e24_95),(101,e24_101)]
theorem k24_ok : chunkOk prog lib t2 k24 = true := by decide +kernel
def e25_101 : Ent := [([.agg [j 0,.nils],.agg [j 4,.nils]],.agg [j 0,.nils,j 1,.nils]),
  ([.agg [j 2,.nils],.agg [j 4,.nils]],.agg [j 1,.nils,j 2,.nils]),
  ([.agg [j 3,.nils],.agg [j 4,.nils]],.agg [j 3,.nils,j 4,.nils]),
  ([.agg [j 6,.nils],.agg [j 8,.nils]],.agg [j 3,.nils,j 4,.nils]),
  ([.agg [j 24,.nils],.agg [j 16,.nils]],.agg [j 3,.nils,j 2,.nils]),
  ([.agg [j 5,.nils],.agg [j 10,.nils]],.agg [j 1,.nils,j 2,.nils]),
  ([.agg [j 1,.nils],.agg [j 10,.nils]],.agg [j 1,.nils,j 10,.nils]),
  ([.agg [j 3,.nils],.agg [j 2,.nils]],.agg [j 3,.nils,j 2,.nils]),
  ([.agg [j 2,.nils],.agg [j 2,.nils]],.agg [j 1,.nils,j 1,.nils]),
  ([.agg [j 4,.nils],.agg [j 2,.nils]],.agg [j 2,.nils,j 1,.nils]),
  ([.agg [j 1,.nils],.agg [j 8,.nils]],.agg [j 1,.nils,j 8,.nils]),
  ([.agg [j 1,.nils],.agg [j 12,.nils]],.agg [j 1,.nils,j 12,.nils]),
  ([.agg [j 4,.nils],.agg [j 96,.nils]],.agg [j 1,.nils,j 24,.nils]),
  ([.agg [j 1,.nils],.agg [j 24,.nils]],.agg [j 1,.nils,j 24,.nils]),
  ([.agg [j 0,.nils],.agg [j 24,.nils]],.agg [j 0,.nils,j 1,.nils]),
  ([.agg [j 1,.nils],.agg [j 3,.nils]],.agg [j 1,.nils,j 3,.nils]),
  ([.agg [j 3,.nils],.agg [j 3,.nils]],.agg [j 1,.nils,j 1,.nils])]
def e25_114 : Ent := [([.agg [j 1,.nils,j 2,.nils,j 1,.nils,j 1,.nils]],.agg [.str [49,47,50],.str [49]]),
  ([.agg [j 0,.nils,j 1,.nils,j 1,.nils,j 2,.nils]],.agg [.str [48],.str [49,47,50]]),
  ([.agg [j 1,.nils,j 24,.nils,j 0,.nils,j 1,.nils]],.agg [.str [49,47,50,52],.str [48]])]
def k25 : List (Nat × Ent) := [(101,e25_101),(114,e25_114)]
theorem k25_ok : chunkOk prog lib t2 k25 = true := by decide +kernel
def e26_123 : Ent := [([.vsl false 4 [j 1,.nils,j 2,.nils,j 0,.nils,j 1,.nils,j 0,.nils,j 1,.nils,j 0,.nils,j 1,.nils]],.fsl true 1 4 [.str [49,47,50],.str [48],.str [48],.str [48]]),
  ([.vsl false 2 [j 1,.nils,j 1,.nils,j 1,.nils,j 1,.nils]],.fsl true 1 2 [.str [49],.str [49]])]
def e26_151 : Ent := [([.agg [j 0,.nils]],.bool false)]
def e26_155 : Ent := [([.agg [j 10,.nils],j 1],.agg [j 10,.nils]),
  ([.agg [j 10,.nils],j 2],.agg [j 100,.nils])]
def e26_161 : Ent := [([.vsl true 2 [.str [49],.str [49]]],j 0)]
def e26_172 : Ent := [([.agg [j 3,.nils]],j 2),
  ([.agg [j 2,.nils]],j 2),
  ([.agg [j 1,.nils]],j 1),
  ([.agg [j 24,.nils]],j 5)]
def k26 : List (Nat × Ent) := [(123,e26_123),(151,e26_151),(155,e26_155),(161,e26_161),(172,e26_172)]
theorem k26_ok : chunkOk prog lib t2 k26 = true := by decide +kernel
def l3_161 : Ent := e26_161
def l3_36 : Ent := e22_36
def l3_69 : Ent := e23_69
def l3_101 : Ent := e24_101 ++ (e25_101 ++ (l2_101))
def l3_71 : Ent := e23_71
def l3_41 : Ent := e22_41
def l3_74 : Ent := e23_74 ++ (e24_74)
def l3_172 : Ent := e26_172 ++ (l2_172)
def l3_49 : Ent := e22_49
def l3_114 : Ent := e25_114
def l3_51 : Ent := e22_51
def l3_52 : Ent := e22_52
def l3_53 : Ent := e23_53
def l3_85 : Ent := e24_85
def l3_151 : Ent := e26_151
def l3_58 : Ent := e23_58
def l3_155 : Ent := e26_155
def l3_123 : Ent := e26_123
def l3_95 : Ent := e24_95
def t3 : Tr Ent := (.n 95 l3_95 (.n 49 l3_49 (.n 34 l2_34 (.n 28 l2_28 (.n 21 l2_21 (.n 15 l1_15 (.n 14 l1_14 .l .l) .l) (.n 23 l2_23 .l .l)) (.n 31 l1_31 (.n 29 l1_29 .l .l) (.n 33 l1_33 .l .l))) (.n 44 l1_44 (.n 38 l1_38 (.n 37 l2_37 (.n 36 l3_36 .l .l) .l) (.n 41 l3_41 .l .l)) (.n 47 l1_47 (.n 46 l2_46 .l .l) (.n 48 l1_48 .l .l)))) (.n 71 l3_71 (.n 59 l1_59 (.n 53 l3_53 (.n 52 l3_52 (.n 51 l3_51 .l .l) .l) (.n 58 l3_58 .l .l)) (.n 68 l1_68 (.n 63 l2_63 .l .l) (.n 69 l3_69 .l .l))) (.n 81 l1_81 (.n 79 l2_79 (.n 74 l3_74 .l .l) (.n 80 l1_80 .l .l)) (.n 86 l2_86 (.n 85 l3_85 .l .l) (.n 94 l1_94 .l .l))))) (.n 129 l1_129 (.n 108 l2_108 (.n 100 l2_100 (.n 98 l1_98 (.n 97 l2_97 (.n 96 l1_96 .l .l) .l) (.n 99 l1_99 .l .l)) (.n 102 l2_102 (.n 101 l3_101 .l .l) (.n 105 l2_105 .l .l))) (.n 119 l1_119 (.n 117 l1_117 (.n 114 l3_114 (.n 111 l2_111 .l .l) .l) (.n 118 l1_118 .l .l)) (.n 124 l1_124 (.n 123 l3_123 .l .l) (.n 125 l1_125 .l .l)))) (.n 149 l2_149 (.n 142 l1_142 (.n 134 l1_134 (.n 132 l2_132 (.n 130 l2_130 .l .l) .l) (.n 136 l2_136 .l .l)) (.n 147 l1_147 (.n 146 l1_146 .l .l) (.n 148 l2_148 .l .l))) (.n 161 l3_161 (.n 151 l3_151 (.n 150 l1_150 .l .l) (.n 155 l3_155 .l .l)) (.n 164 l1_164 (.n 163 l1_163 .l .l) (.n 172 l3_172 .l .l))))))
theorem t3_ok {Λ : Link} (hΛ : LinkOk Λ) (hp : Λ.prog = prog) (hl : Λ.lib = lib) : t3.All (AllC Λ) := by
  have h := t2_ok hΛ hp hl
  have c22 := chunk_at hΛ hp hl h k22_ok
  have c23 := chunk_at hΛ hp hl h k23_ok
  have c24 := chunk_at hΛ hp hl h k24_ok
  have c25 := chunk_at hΛ hp hl h k25_ok
  have c26 := chunk_at hΛ hp hl h k26_ok
  exact (Tr.all_n (c24 _ _ (.tail _ (.tail _ (.head _)))) (Tr.all_n (c22 _ _ (.tail _ (.tail _ (.head _)))) (Tr.all_n (Tr.all_find h rfl) (Tr.all_n (Tr.all_find h rfl) (Tr.all_n (Tr.all_find h rfl) (Tr.all_n (Tr.all_find h rfl) (Tr.all_n (Tr.all_find h rfl) Tr.all_l Tr.all_l) Tr.all_l) (Tr.all_n (Tr.all_find h rfl) Tr.all_l Tr.all_l)) (Tr.all_n (Tr.all_find h rfl) (Tr.all_n (Tr.all_find h rfl) Tr.all_l Tr.all_l) (Tr.all_n (Tr.all_find h rfl) Tr.all_l Tr.all_l))) (Tr.all_n (Tr.all_find h rfl) (Tr.all_n (Tr.all_find h rfl) (Tr.all_n (Tr.all_find h rfl) (Tr.all_n (c22 _ _ (.head _)) Tr.all_l Tr.all_l) Tr.all_l) (Tr.all_n (c22 _ _ (.tail _ (.head _))) Tr.all_l Tr.all_l)) (Tr.all_n (Tr.all_find h rfl) (Tr.all_n (Tr.all_find h rfl) Tr.all_l Tr.all_l) (Tr.all_n (Tr.all_find h rfl) Tr.all_l Tr.all_l)))) (Tr.all_n (c23 _ _ (.tail _ (.tail _ (.tail _ (.head _))))) (Tr.all_n (Tr.all_find h rfl) (Tr.all_n (c23 _ _ (.head _)) (Tr.all_n (c22 _ _ (.tail _ (.tail _ (.tail _ (.tail _ (.head _)))))) (Tr.all_n (c22 _ _ (.tail _ (.tail _ (.tail _ (.head _))))) Tr.all_l Tr.all_l) Tr.all_l) (Tr.all_n (c23 _ _ (.tail _ (.head _))) Tr.all_l Tr.all_l)) (Tr.all_n (Tr.all_find h rfl) (Tr.all_n (Tr.all_find h rfl) Tr.all_l Tr.all_l) (Tr.all_n (c23 _ _ (.tail _ (.tail _ (.head _)))) Tr.all_l Tr.all_l))) (Tr.all_n (Tr.all_find h rfl) (Tr.all_n (Tr.all_find h rfl) (Tr.all_n (.app (c23 _ _ (.tail _ (.tail _ (.tail _ (.tail _ (.head _)))))) (c24 _ _ (.head _))) Tr.all_l Tr.all_l) (Tr.all_n (Tr.all_find h rfl) Tr.all_l Tr.all_l)) (Tr.all_n (Tr.all_find h rfl) (Tr.all_n (c24 _ _ (.tail _ (.head _))) Tr.all_l Tr.all_l) (Tr.all_n (Tr.all_find h rfl) Tr.all_l Tr.all_l))))) (Tr.all_n (Tr.all_find h rfl) (Tr.all_n (Tr.all_find h rfl) (Tr.all_n (Tr.all_find h rfl) (Tr.all_n (Tr.all_find h rfl) (Tr.all_n (Tr.all_find h rfl) (Tr.all_n (Tr.all_find h rfl) Tr.all_l Tr.all_l) Tr.all_l) (Tr.all_n (Tr.all_find h rfl) Tr.all_l Tr.all_l)) (Tr.all_n (Tr.all_find h rfl) (Tr.all_n (.app (c24 _ _ (.tail _ (.tail _ (.tail _ (.head _))))) (.app (c25 _ _ (.head _)) (Tr.all_find h rfl))) Tr.all_l Tr.all_l) (Tr.all_n (Tr.all_find h rfl) Tr.all_l Tr.all_l))) (Tr.all_n (Tr.all_find h rfl) (Tr.all_n (Tr.all_find h rfl) (Tr.all_n (c25 _ _ (.tail _ (.head _))) (Tr.all_n (Tr.all_find h rfl) Tr.all_l Tr.all_l) Tr.all_l) (Tr.all_n (Tr.all_find h rfl) Tr.all_l Tr.all_l)) (Tr.all_n (Tr.all_find h rfl) (Tr.all_n (c26 _ _ (.head _)) Tr.all_l Tr.all_l) (Tr.all_n (Tr.all_find h rfl) Tr.all_l Tr.all_l)))) (Tr.all_n (Tr.all_find h rfl) (Tr.all_n (Tr.all_find h rfl) (Tr.all_n (Tr.all_find h rfl) (Tr.all_n (Tr.all_find h rfl) (Tr.all_n (Tr.all_find h rfl) Tr.all_l Tr.all_l) Tr.all_l) (Tr.all_n (Tr.all_find h rfl) Tr.all_l Tr.all_l)) (Tr.all_n (Tr.all_find h rfl) (Tr.all_n (Tr.all_find h rfl) Tr.all_l Tr.all_l) (Tr.all_n (Tr.all_find h rfl) Tr.all_l Tr.all_l))) (Tr.all_n (c26 _ _ (.tail _ (.tail _ (.tail _ (.head _))))) (Tr.all_n (c26 _ _ (.tail _ (.head _))) (Tr.all_n (Tr.all_find h rfl) Tr.all_l Tr.all_l) (Tr.all_n (c26 _ _ (.tail _ (.tail _ (.head _)))) Tr.all_l Tr.all_l)) (Tr.all_n (Tr.all_find h rfl) (Tr.all_n (Tr.all_find h rfl) Tr.all_l Tr.all_l) (Tr.all_n (.app (c26 _ _ (.tail _ (.tail _ (.tail _ (.tail _ (.head _)))))) (Tr.all_find h rfl)) Tr.all_l Tr.all_l))))))
def e27_32 : Ent := [([.vsl true 2 [.vsl true 2 [j 0,j 1],.vsl true 2 [j 2,j 3]],j 1000],j 0),
  ([.vsl true 3 [.vsl true 3 [j 0,j 1,j 0],.vsl true 3 [j 0,j 1,j 0],.vsl true 3 [j 0,j 0,j 0]],j 100],j 0),
  ([.vsl true 2 [.vsl true 2 [j 2,j 4],.vsl true 2 [j 2,j 4]],j 1000],j 0)]
def e27_35 : Ent := [([.vsl true 5 [j 1,j 1,j 1,j 1,j 1],.fn (.f 36) [] []],.fsl false 1 5 [j 0,j 0,j 0,j 0,j 0])]
def e27_40 : Ent := [([j 2,.fn (.f 58) [] [.vptr [.vsl true 2 [.vsl true 2 [j 0,j 1],.vsl true 2 [j 2,j 3]]],.vptr [j 1],.vptr [j 0]]],.vsl true 2 [.vsl true 2 [j 1,j 0],.vsl true 2 [j 3,j 2]]),
  ([j 2,.fn (.f 41) [] [.vptr [.vsl true 3 [.vsl true 3 [j 0,j 1,j 0],.vsl true 3 [j 0,j 1,j 0],.vsl true 3 [j 0,j 0,j 0]]],.vptr [.vsl true 2 [.vsl true 2 [j 0,j 1],.vsl true 2 [j 2,j 3]]],.vptr [j 1]]],.vsl true 2 [.vsl true 2 [j 2,j 4],.vsl true 2 [j 2,j 4]])]
def e27_49 : Ent := [([.agg [j 6,.nils,j 1,.nils],.agg [j 1,.nils,j 4,.nils]],.agg [j 3,.nils,j 2,.nils]),
  ([.agg [j 14,.nils,j 1,.nils],.agg [j 1,.nils,j 4,.nils]],.agg [j 7,.nils,j 2,.nils]),
  ([.agg [j 3,.nils,j 2,.nils],.agg [j 3,.nils,j 2,.nils]],.agg [j 9,.nils,j 4,.nils]),
  ([.agg [j 4,.nils,j 1,.nils],.agg [j 1,.nils,j 4,.nils]],.agg [j 1,.nils,j 1,.nils]),
  ([.agg [j 0,.nils,j 1,.nils],.agg [j 1,.nils,j 2,.nils]],.agg [j 0,.nils,j 1,.nils]),
  ([.agg [j 1,.nils,j 2,.nils],.agg [j 1,.nils,j 2,.nils]],.agg [j 1,.nils,j 4,.nils]),
  ([.agg [j 1,.nils,j 4,.nils],.agg [j 0,.nils,j 1,.nils]],.agg [j 0,.nils,j 1,.nils]),
  ([.agg [j 1,.nils,j 4,.nils],.agg [j 1,.nils,j 1,.nils]],.agg [j 1,.nils,j 4,.nils]),
  ([.agg [j 1,.nils,j 4,.nils],.agg [j 2,.nils,j 1,.nils]],.agg [j 1,.nils,j 2,.nils]),
  ([.agg [j 1,.nils,j 4,.nils],.agg [j 3,.nils,j 1,.nils]],.agg [j 3,.nils,j 4,.nils]),
  ([.agg [j 1,.nils,j 1,.nils],.agg [j 1,.nils,j 2,.nils]],.agg [j 1,.nils,j 2,.nils]),
  ([.agg [j 1,.nils,j 2,.nils],.agg [j 1,.nils,j 1,.nils]],.agg [j 1,.nils,j 2,.nils]),
  ([.agg [j 1,.nils,j 2,.nils],.agg [j 0,.nils,j 1,.nils]],.agg [j 0,.nils,j 1,.nils]),
  ([.agg [j 1,.nils,j 10,.nils],.agg [j 5,.nils,j 1,.nils]],.agg [j 1,.nils,j 2,.nils])]
def k27 : List (Nat × Ent) := [(32,e27_32),(35,e27_35),(40,e27_40),(49,e27_49)]
theorem k27_ok : chunkOk prog lib t3 k27 = true := by decide +kernel
def e28_49 : Ent := [([.agg [j 5,.nils,j 1,.nils],.agg [j 1,.nils,j 10,.nils]],.agg [j 1,.nils,j 2,.nils]),
  ([.agg [j 1,.nils,j 2,.nils],.agg [j 3,.nils,j 1,.nils]],.agg [j 3,.nils,j 2,.nils]),
  ([.agg [j 1,.nils,j 2,.nils],.agg [j 2,.nils,j 1,.nils]],.agg [j 1,.nils,j 1,.nils]),
  ([.agg [j 4,.nils,j 1,.nils],.agg [j 1,.nils,j 2,.nils]],.agg [j 2,.nils,j 1,.nils]),
  ([.agg [j 1,.nils,j 1,.nils],.agg [j 1,.nils,j 24,.nils]],.agg [j 1,.nils,j 24,.nils]),
  ([.agg [j 0,.nils,j 1,.nils],.agg [j 1,.nils,j 24,.nils]],.agg [j 0,.nils,j 1,.nils]),
  ([.agg [j 3,.nils,j 1,.nils],.agg [j 1,.nils,j 3,.nils]],.agg [j 1,.nils,j 1,.nils])]
def e28_50 : Ent := [([.agg [j 0,.nils,j 1,.nils],.agg [j 0,.nils,j 1,.nils]],.agg [j 0,.nils,j 1,.nils]),
  ([.agg [j 1,.nils,j 1,.nils],.agg [j 0,.nils,j 1,.nils]],.agg [j 1,.nils,j 1,.nils]),
  ([.agg [j 1,.nils,j 1,.nils],.agg [j 1,.nils,j 1,.nils]],.agg [j 0,.nils,j 1,.nils]),
  ([.agg [j 10,.nils,j 1,.nils],.agg [j 2,.nils,j 1,.nils]],.agg [j 8,.nils,j 1,.nils])]
def e28_73 : Ent := [([.agg [j 4,.nils,j 1,.nils]],.agg [j 1,.nils,j 4,.nils]),
  ([.agg [j 2,.nils,j 1,.nils]],.agg [j 1,.nils,j 2,.nils]),
  ([.agg [j 10,.nils,j 1,.nils]],.agg [j 1,.nils,j 10,.nils]),
  ([.agg [j 8,.nils,j 1,.nils]],.agg [j 1,.nils,j 8,.nils]),
  ([.agg [j 12,.nils,j 1,.nils]],.agg [j 1,.nils,j 12,.nils]),
  ([.agg [j 3,.nils,j 1,.nils]],.agg [j 1,.nils,j 3,.nils])]
def e28_74 : Ent := [([.agg [j 7,.nils,j 2,.nils],.agg [j (-9),.nils,j 4,.nils]],.agg [j 5,.nils,j 4,.nils]),
  ([.agg [j 1,.nils,j 2,.nils],.agg [j 0,.nils,j 1,.nils]],.agg [j 1,.nils,j 2,.nils]),
  ([.agg [j 1,.nils,j 1,.nils],.agg [j (-1),.nils,j 2,.nils]],.agg [j 1,.nils,j 2,.nils])]
def k28 : List (Nat × Ent) := [(49,e28_49),(50,e28_50),(73,e28_73),(74,e28_74)]
theorem k28_ok : chunkOk prog lib t3 k28 = true := by decide +kernel
def e29_74 : Ent := [([.agg [j 0,.nils,j 1,.nils],.agg [j 1,.nils,j 4,.nils]],.agg [j 1,.nils,j 4,.nils]),
  ([.agg [j 1,.nils,j 4,.nils],.agg [j 1,.nils,j 2,.nils]],.agg [j 3,.nils,j 4,.nils]),
  ([.agg [j 3,.nils,j 4,.nils],.agg [j 3,.nils,j 4,.nils]],.agg [j 3,.nils,j 2,.nils]),
  ([.agg [j 3,.nils,j 2,.nils],.agg [j (-1),.nils,j 1,.nils]],.agg [j 1,.nils,j 2,.nils]),
  ([.agg [j 0,.nils,j 1,.nils],.agg [j 1,.nils,j 2,.nils]],.agg [j 1,.nils,j 2,.nils]),
  ([.agg [j 1,.nils,j 2,.nils],.agg [j 1,.nils,j 2,.nils]],.agg [j 1,.nils,j 1,.nils]),
  ([.agg [j 1,.nils,j 8,.nils],.agg [j (-1),.nils,j 12,.nils]],.agg [j 1,.nils,j 24,.nils])]
def e29_75 : Ent := [([.agg [j 0,.nils,j 1,.nils,j 0,.nils,j 1,.nils],.agg [j 5,.nils,j 1,.nils]],.agg [j 0,.nils,j 1,.nils,j 0,.nils,j 1,.nils]),
  ([.agg [j 0,.nils,j 1,.nils,j 0,.nils,j 1,.nils],.agg [j 1,.nils,j 1,.nils]],.agg [j 0,.nils,j 1,.nils,j 0,.nils,j 1,.nils])]
def e29_106 : Ent := [([.agg [j 0,.nils,j 1,.nils],.vsl false 4 [j 3,.nils,j 1,.nils,j 0,.nils,j 1,.nils,j 0,.nils,j 1,.nils,j 0,.nils,j 1,.nils],.fn (.f 74) [] []],.agg [j 3,.nils,j 1,.nils]),
  ([.agg [j 0,.nils,j 1,.nils],.vsl false 4 [j 0,.nils,j 1,.nils,j 0,.nils,j 1,.nils,j 1,.nils,j 1,.nils,j 0,.nils,j 1,.nils],.fn (.f 74) [] []],.agg [j 1,.nils,j 1,.nils])]
def e29_110 : Ent := [([.str [49]],.agg [j 1,.nils]),
  ([.str [50]],.agg [j 2,.nils]),
  ([.str [51]],.agg [j 3,.nils]),
  ([.str [48]],.agg [j 0,.nils]),
  ([.str [49,48]],.agg [j 10,.nils]),
  ([.str [53]],.agg [j 5,.nils]),
  ([.str [52]],.agg [j 4,.nils])]
def e29_112 : Ent := [([.agg [j 0,.nils,j 1,.nils,j 0,.nils,j 1,.nils],.agg [j 0,.nils,j 1,.nils,j 0,.nils,j 1,.nils]],.agg [j 0,.nils,j 1,.nils,j 0,.nils,j 1,.nils])]
def e29_121 : Ent := [([.vsl true 1 [.str [48],.str [48]],.fn (.f 53) [] []],.fsl false 1 1 [j 0])]
def k29 : List (Nat × Ent) := [(74,e29_74),(75,e29_75),(106,e29_106),(110,e29_110),(112,e29_112),(121,e29_121)]
theorem k29_ok : chunkOk prog lib t3 k29 = true := by decide +kernel
def e30_126 : Ent := [([.vsl true 2 [.str [49],.str [49]],.vptr [.vsl true 1 [.vsl true 2 [.str [49],.str [49]]]]],j 0)]
def e30_131 : Ent := [([.vsl true 2 [j 1,.nils,j 1,.nils,j 1,.nils,j 1,.nils],.vsl true 2 [j 1,.nils,j 1,.nils,j 1,.nils,j 1,.nils]],.agg [j 2,.nils,j 1,.nils]),
  ([.vsl false 1 [j 1,.nils,j 1,.nils],.vsl true 1 [j 1,.nils,j 1,.nils]],.agg [j 1,.nils,j 1,.nils])]
def e30_151 : Ent := [([.agg [j 3,.nils]],.bool false),
  ([.agg [j 2,.nils]],.bool false),
  ([.agg [j 1,.nils]],.bool false),
  ([.agg [j 24,.nils]],.bool false)]
def k30 : List (Nat × Ent) := [(126,e30_126),(131,e30_131),(151,e30_151)]
theorem k30_ok : chunkOk prog lib t3 k30 = true := by decide +kernel
def l4_32 : Ent := e27_32
def l4_131 : Ent := e30_131
def l4_35 : Ent := e27_35
def l4_40 : Ent := e27_40
def l4_73 : Ent := e28_73
def l4_74 : Ent := e28_74 ++ (e29_74 ++ (l3_74))
def l4_106 : Ent := e29_106
def l4_75 : Ent := e29_75
def l4_110 : Ent := e29_110
def l4_112 : Ent := e29_112
def l4_49 : Ent := e27_49 ++ (e28_49 ++ (l3_49))
def l4_50 : Ent := e28_50
def l4_151 : Ent := e30_151 ++ (l3_151)
def l4_121 : Ent := e29_121
def l4_126 : Ent := e30_126
def t4 : Tr Ent := (.n 95 l3_95 (.n 49 l4_49 (.n 35 l4_35 (.n 29 l1_29 (.n 21 l2_21 (.n 15 l1_15 (.n 14 l1_14 .l .l) .l) (.n 28 l2_28 (.n 23 l2_23 .l .l) .l)) (.n 33 l1_33 (.n 32 l4_32 (.n 31 l1_31 .l .l) .l) (.n 34 l2_34 .l .l))) (.n 41 l3_41 (.n 38 l1_38 (.n 37 l2_37 (.n 36 l3_36 .l .l) .l) (.n 40 l4_40 .l .l)) (.n 47 l1_47 (.n 46 l2_46 (.n 44 l1_44 .l .l) .l) (.n 48 l1_48 .l .l)))) (.n 71 l3_71 (.n 58 l3_58 (.n 52 l3_52 (.n 51 l3_51 (.n 50 l4_50 .l .l) .l) (.n 53 l3_53 .l .l)) (.n 68 l1_68 (.n 63 l2_63 (.n 59 l1_59 .l .l) .l) (.n 69 l3_69 .l .l))) (.n 80 l1_80 (.n 75 l4_75 (.n 74 l4_74 (.n 73 l4_73 .l .l) .l) (.n 79 l2_79 .l .l)) (.n 86 l2_86 (.n 85 l3_85 (.n 81 l1_81 .l .l) .l) (.n 94 l1_94 .l .l))))) (.n 125 l1_125 (.n 110 l4_110 (.n 101 l3_101 (.n 98 l1_98 (.n 97 l2_97 (.n 96 l1_96 .l .l) .l) (.n 100 l2_100 (.n 99 l1_99 .l .l) .l)) (.n 106 l4_106 (.n 105 l2_105 (.n 102 l2_102 .l .l) .l) (.n 108 l2_108 .l .l))) (.n 118 l1_118 (.n 114 l3_114 (.n 112 l4_112 (.n 111 l2_111 .l .l) .l) (.n 117 l1_117 .l .l)) (.n 123 l3_123 (.n 121 l4_121 (.n 119 l1_119 .l .l) .l) (.n 124 l1_124 .l .l)))) (.n 147 l1_147 (.n 132 l2_132 (.n 130 l2_130 (.n 129 l1_129 (.n 126 l4_126 .l .l) .l) (.n 131 l4_131 .l .l)) (.n 142 l1_142 (.n 136 l2_136 (.n 134 l1_134 .l .l) .l) (.n 146 l1_146 .l .l))) (.n 155 l3_155 (.n 150 l1_150 (.n 149 l2_149 (.n 148 l2_148 .l .l) .l) (.n 151 l4_151 .l .l)) (.n 164 l1_164 (.n 163 l1_163 (.n 161 l3_161 .l .l) .l) (.n 172 l3_172 .l .l))))))
theorem t4_ok {Λ : Link} (hΛ : LinkOk Λ) (hp : Λ.prog = prog) (hl : Λ.lib = lib) : t4.All (AllC Λ) := by
  have h := t3_ok hΛ hp hl
  have c27 := chunk_at hΛ hp hl h k27_ok
  have c28 := chunk_at hΛ hp hl h k28_ok
  have c29 := chunk_at hΛ hp hl h k29_ok
  have c30 := chunk_at hΛ hp hl h k30_ok
  exact (Tr.all_n (Tr.all_find h rfl) (Tr.all_n (.app (c27 _ _ (.tail _ (.tail _ (.tail _ (.head _))))) (.app (c28 _ _ (.head _)) (Tr.all_find h rfl))) (Tr.all_n (c27 _ _ (.tail _ (.head _))) (Tr.all_n (Tr.all_find h rfl) (Tr.all_n (Tr.all_find h rfl) (Tr.all_n (Tr.all_find h rfl) (Tr.all_n (Tr.all_find h rfl) Tr.all_l Tr.all_l) Tr.all_l) (Tr.all_n (Tr.all_find h rfl) (Tr.all_n (Tr.all_find h rfl) Tr.all_l Tr.all_l) Tr.all_l)) (Tr.all_n (Tr.all_find h rfl) (Tr.all_n (c27 _ _ (.head _)) (Tr.all_n (Tr.all_find h rfl) Tr.all_l Tr.all_l) Tr.all_l) (Tr.all_n (Tr.all_find h rfl) Tr.all_l Tr.all_l))) (Tr.all_n (Tr.all_find h rfl) (Tr.all_n (Tr.all_find h rfl) (Tr.all_n (Tr.all_find h rfl) (Tr.all_n (Tr.all_find h rfl) Tr.all_l Tr.all_l) Tr.all_l) (Tr.all_n (c27 _ _ (.tail _ (.tail _ (.head _)))) Tr.all_l Tr.all_l)) (Tr.all_n (Tr.all_find h rfl) (Tr.all_n (Tr.all_find h rfl) (Tr.all_n (Tr.all_find h rfl) Tr.all_l Tr.all_l) Tr.all_l) (Tr.all_n (Tr.all_find h rfl) Tr.all_l Tr.all_l)))) (Tr.all_n (Tr.all_find h rfl) (Tr.all_n (Tr.all_find h rfl) (Tr.all_n (Tr.all_find h rfl) (Tr.all_n (Tr.all_find h rfl) (Tr.all_n (c28 _ _ (.tail _ (.head _))) Tr.all_l Tr.all_l) Tr.all_l) (Tr.all_n (Tr.all_find h rfl) Tr.all_l Tr.all_l)) (Tr.all_n (Tr.all_find h rfl) (Tr.all_n (Tr.all_find h rfl) (Tr.all_n (Tr.all_find h rfl) Tr.all_l Tr.all_l) Tr.all_l) (Tr.all_n (Tr.all_find h rfl) Tr.all_l Tr.all_l))) (Tr.all_n (Tr.all_find h rfl) (Tr.all_n (c29 _ _ (.tail _ (.head _))) (Tr.all_n (.app (c28 _ _ (.tail _ (.tail _ (.tail _ (.head _))))) (.app (c29 _ _ (.head _)) (Tr.all_find h rfl))) (Tr.all_n (c28 _ _ (.tail _ (.tail _ (.head _)))) Tr.all_l Tr.all_l) Tr.all_l) (Tr.all_n (Tr.all_find h rfl) Tr.all_l Tr.all_l)) (Tr.all_n (Tr.all_find h rfl) (Tr.all_n (Tr.all_find h rfl) (Tr.all_n (Tr.all_find h rfl) Tr.all_l Tr.all_l) Tr.all_l) (Tr.all_n (Tr.all_find h rfl) Tr.all_l Tr.all_l))))) (Tr.all_n (Tr.all_find h rfl) (Tr.all_n (c29 _ _ (.tail _ (.tail _ (.tail _ (.head _))))) (Tr.all_n (Tr.all_find h rfl) (Tr.all_n (Tr.all_find h rfl) (Tr.all_n (Tr.all_find h rfl) (Tr.all_n (Tr.all_find h rfl) Tr.all_l Tr.all_l) Tr.all_l) (Tr.all_n (Tr.all_find h rfl) (Tr.all_n (Tr.all_find h rfl) Tr.all_l Tr.all_l) Tr.all_l)) (Tr.all_n (c29 _ _ (.tail _ (.tail _ (.head _)))) (Tr.all_n (Tr.all_find h rfl) (Tr.all_n (Tr.all_find h rfl) Tr.all_l Tr.all_l) Tr.all_l) (Tr.all_n (Tr.all_find h rfl) Tr.all_l Tr.all_l))) (Tr.all_n (Tr.all_find h rfl) (Tr.all_n (Tr.all_find h rfl) (Tr.all_n (c29 _ _ (.tail _ (.tail _ (.tail _ (.tail _ (.head _)))))) (Tr.all_n (Tr.all_find h rfl) Tr.all_l Tr.all_l) Tr.all_l) (Tr.all_n (Tr.all_find h rfl) Tr.all_l Tr.all_l)) (Tr.all_n (Tr.all_find h rfl) (Tr.all_n (c29 _ _ (.tail _ (.tail _ (.tail _ (.tail _ (.tail _ (.head _))))))) (Tr.all_n (Tr.all_find h rfl) Tr.all_l Tr.all_l) Tr.all_l) (Tr.all_n (Tr.all_find h rfl) Tr.all_l Tr.all_l)))) (Tr.all_n (Tr.all_find h rfl) (Tr.all_n (Tr.all_find h rfl) (Tr.all_n (Tr.all_find h rfl) (Tr.all_n (Tr.all_find h rfl) (Tr.all_n (c30 _ _ (.head _)) Tr.all_l Tr.all_l) Tr.all_l) (Tr.all_n (c30 _ _ (.tail _ (.head _))) Tr.all_l Tr.all_l)) (Tr.all_n (Tr.all_find h rfl) (Tr.all_n (Tr.all_find h rfl) (Tr.all_n (Tr.all_find h rfl) Tr.all_l Tr.all_l) Tr.all_l) (Tr.all_n (Tr.all_find h rfl) Tr.all_l Tr.all_l))) (Tr.all_n (Tr.all_find h rfl) (Tr.all_n (Tr.all_find h rfl) (Tr.all_n (Tr.all_find h rfl) (Tr.all_n (Tr.all_find h rfl) Tr.all_l Tr.all_l) Tr.all_l) (Tr.all_n (.app (c30 _ _ (.tail _ (.tail _ (.head _)))) (Tr.all_find h rfl)) Tr.all_l Tr.all_l)) (Tr.all_n (Tr.all_find h rfl) (Tr.all_n (Tr.all_find h rfl) (Tr.all_n (Tr.all_find h rfl) Tr.all_l Tr.all_l) Tr.all_l) (Tr.all_n (Tr.all_find h rfl) Tr.all_l Tr.all_l))))))
def e31_4 : Ent := [([.vsl true 2 [.vsl true 2 [j 0,j 1],.vsl true 2 [j 2,j 3]]],j 0)]
def e31_5 : Ent := [([j 1,j 2,.vsl true 5 [j 1,j 1,j 1,j 1,j 1]],.tup [.vsl true 2 [.vsl true 2 [j 1,j 2],.vsl true 2 [j 1,j 2]],j 0])]
def e31_50 : Ent := [([.agg [j 7,.nils,j 2,.nils],.agg [j 9,.nils,j 4,.nils]],.agg [j 5,.nils,j 4,.nils]),
  ([.agg [j 1,.nils,j 2,.nils],.agg [j 0,.nils,j 1,.nils]],.agg [j 1,.nils,j 2,.nils]),
  ([.agg [j 1,.nils,j 1,.nils],.agg [j 1,.nils,j 2,.nils]],.agg [j 1,.nils,j 2,.nils]),
  ([.agg [j 3,.nils,j 2,.nils],.agg [j 1,.nils,j 1,.nils]],.agg [j 1,.nils,j 2,.nils]),
  ([.agg [j 1,.nils,j 8,.nils],.agg [j 1,.nils,j 12,.nils]],.agg [j 1,.nils,j 24,.nils])]
def e31_62 : Ent := [([.str [49,47,50]],.agg [j 1,.nils,j 2,.nils]),
  ([.str [51,47,50]],.agg [j 3,.nils,j 2,.nils]),
  ([.str [48]],.agg [j 0,.nils,j 1,.nils]),
  ([.str [53]],.agg [j 5,.nils,j 1,.nils]),
  ([.str [49]],.agg [j 1,.nils,j 1,.nils]),
  ([.str [49,47,49,48]],.agg [j 1,.nils,j 10,.nils]),
  ([.str [49,48]],.agg [j 10,.nils,j 1,.nils]),
  ([.str [52]],.agg [j 4,.nils,j 1,.nils]),
  ([.str [51]],.agg [j 3,.nils,j 1,.nils])]
def e31_70 : Ent := [([.agg [j 6,.nils,j 1,.nils],.agg [j 4,.nils,j 1,.nils]],.agg [j 3,.nils,j 2,.nils]),
  ([.agg [j 14,.nils,j 1,.nils],.agg [j 4,.nils,j 1,.nils]],.agg [j 7,.nils,j 2,.nils]),
  ([.agg [j 4,.nils,j 1,.nils],.agg [j 4,.nils,j 1,.nils]],.agg [j 1,.nils,j 1,.nils]),
  ([.agg [j 0,.nils,j 1,.nils],.agg [j 2,.nils,j 1,.nils]],.agg [j 0,.nils,j 1,.nils])]
def k31 : List (Nat × Ent) := [(4,e31_4),(5,e31_5),(50,e31_50),(62,e31_62),(70,e31_70)]
theorem k31_ok : chunkOk prog lib t4 k31 = true := by decide +kernel
def e32_70 : Ent := [([.agg [j 1,.nils,j 1,.nils],.agg [j 2,.nils,j 1,.nils]],.agg [j 1,.nils,j 2,.nils]),
  ([.agg [j 5,.nils,j 1,.nils],.agg [j 10,.nils,j 1,.nils]],.agg [j 1,.nils,j 2,.nils]),
  ([.agg [j 4,.nils,j 1,.nils],.agg [j 2,.nils,j 1,.nils]],.agg [j 2,.nils,j 1,.nils]),
  ([.agg [j 3,.nils,j 1,.nils],.agg [j 3,.nils,j 1,.nils]],.agg [j 1,.nils,j 1,.nils])]
def e32_72 : Ent := [([.agg [j 1,.nils,j 1,.nils,j 0,.nils,j 1,.nils],.agg [j 0,.nils,j 1,.nils,j 0,.nils,j 1,.nils]],.agg [j 1,.nils,j 1,.nils,j 0,.nils,j 1,.nils])]
def e32_75 : Ent := [([.agg [j 1,.nils,j 10,.nils,j 0,.nils,j 1,.nils],.agg [j 5,.nils,j 1,.nils]],.agg [j 1,.nils,j 2,.nils,j 0,.nils,j 1,.nils]),
  ([.agg [j 0,.nils,j 1,.nils,j 1,.nils,j 1,.nils],.agg [j 1,.nils,j 2,.nils]],.agg [j 0,.nils,j 1,.nils,j 1,.nils,j 2,.nils]),
  ([.agg [j 1,.nils,j 2,.nils,j 1,.nils,j 1,.nils],.agg [j 1,.nils,j 1,.nils]],.agg [j 1,.nils,j 2,.nils,j 1,.nils,j 1,.nils]),
  ([.agg [j 1,.nils,j 2,.nils,j 0,.nils,j 1,.nils],.agg [j 1,.nils,j 1,.nils]],.agg [j 1,.nils,j 2,.nils,j 0,.nils,j 1,.nils]),
  ([.agg [j 0,.nils,j 1,.nils,j 1,.nils,j 2,.nils],.agg [j 1,.nils,j 1,.nils]],.agg [j 0,.nils,j 1,.nils,j 1,.nils,j 2,.nils]),
  ([.agg [j 1,.nils,j 2,.nils,j 0,.nils,j 1,.nils],.agg [j 0,.nils,j 1,.nils]],.agg [j 0,.nils,j 1,.nils,j 0,.nils,j 1,.nils]),
  ([.agg [j 1,.nils,j 1,.nils,j 0,.nils,j 1,.nils],.agg [j 1,.nils,j 24,.nils]],.agg [j 1,.nils,j 24,.nils,j 0,.nils,j 1,.nils])]
def e32_78 : Ent := [([.vsl true 1 [.str [48],.str [48]]],j 0)]
def e32_86 : Ent := [([.str [49,47,50]],j 0),
  ([.str [51,47,50]],j 0),
  ([.str [49,47,49,48]],j 0)]
def e32_91 : Ent := [([.vsl false 1 [j 1,.nils,j 1,.nils],.vptr [.vsl true 1 [j 1,.nils,j 1,.nils]]],.agg [j 1,.nils,j 1,.nils])]
def e32_104 : Ent := [([.agg [j 1,j 1,j 0,.nils,j 1,.nils,j 0,.nils,j 1,.nils]],.agg [j 1,.nils,j 1,.nils,j 0,.nils,j 1,.nils,j 0,.nils,j 1,.nils,j 0,.nils,j 1,.nils]),
  ([.agg [j 0,j 0,j 0,.nils,j 1,.nils,j 0,.nils,j 1,.nils]],.agg [j 1,.nils,j 1,.nils,j 0,.nils,j 1,.nils,j 0,.nils,j 1,.nils,j 0,.nils,j 1,.nils])]
def e32_106 : Ent := [([.agg [j 0,.nils,j 1,.nils],.vsl false 4 [j 0,.nils,j 1,.nils,j 1,.nils,j 4,.nils,j 1,.nils,j 2,.nils,j 3,.nils,j 4,.nils],.fn (.f 74) [] []],.agg [j 3,.nils,j 2,.nils])]
def k32 : List (Nat × Ent) := [(70,e32_70),(72,e32_72),(75,e32_75),(78,e32_78),(86,e32_86),(91,e32_91),(104,e32_104),(106,e32_106)]
theorem k32_ok : chunkOk prog lib t4 k32 = true := by decide +kernel
def e33_106 : Ent := [([.agg [j 0,.nils,j 1,.nils],.vsl false 4 [j 1,.nils,j 2,.nils,j 0,.nils,j 1,.nils,j 0,.nils,j 1,.nils,j 0,.nils,j 1,.nils],.fn (.f 74) [] []],.agg [j 1,.nils,j 2,.nils])]
def e33_107 : Ent := [([.agg [j 3,.nils,j 2,.nils]],.bool false),
  ([.agg [j 1,.nils,j 2,.nils]],.bool false),
  ([.agg [j 1,.nils,j 1,.nils]],.bool false),
  ([.agg [j 0,.nils,j 1,.nils]],.bool false),
  ([.agg [j 1,.nils,j 24,.nils]],.bool false)]
def e33_112 : Ent := [([.agg [j 0,.nils,j 1,.nils,j 1,.nils,j 1,.nils],.agg [j 1,.nils,j 2,.nils,j 0,.nils,j 1,.nils]],.agg [j 1,.nils,j 2,.nils,j 1,.nils,j 1,.nils]),
  ([.agg [j 0,.nils,j 1,.nils,j 1,.nils,j 2,.nils],.agg [j 0,.nils,j 1,.nils,j 0,.nils,j 1,.nils]],.agg [j 0,.nils,j 1,.nils,j 1,.nils,j 2,.nils]),
  ([.agg [j 1,.nils,j 2,.nils,j 1,.nils,j 1,.nils],.agg [j 0,.nils,j 1,.nils,j 0,.nils,j 1,.nils]],.agg [j 1,.nils,j 2,.nils,j 1,.nils,j 1,.nils]),
  ([.agg [j 1,.nils,j 2,.nils,j 1,.nils,j 1,.nils],.agg [j 1,.nils,j 2,.nils,j 0,.nils,j 1,.nils]],.agg [j 1,.nils,j 1,.nils,j 1,.nils,j 1,.nils])]
def e33_127 : Ent := [([.vsl true 1 [.vsl true 2 [.str [49],.str [49]]],.fn (.f 126) [] [.vptr [.vsl true 1 [.vsl true 2 [.str [49],.str [49]]]]]],j 0)]
def k33 : List (Nat × Ent) := [(106,e33_106),(107,e33_107),(112,e33_112),(127,e33_127)]
theorem k33_ok : chunkOk prog lib t4 k33 = true := by decide +kernel
def l5_4 : Ent := e31_4
def l5_5 : Ent := e31_5
def l5_70 : Ent := e31_70 ++ (e32_70)
def l5_72 : Ent := e32_72
def l5_104 : Ent := e32_104
def l5_106 : Ent := e32_106 ++ (e33_106 ++ (l4_106))
def l5_75 : Ent := e32_75 ++ (l4_75)
def l5_107 : Ent := e33_107
def l5_78 : Ent := e32_78
def l5_112 : Ent := e33_112 ++ (l4_112)
def l5_50 : Ent := e31_50 ++ (l4_50)
def l5_86 : Ent := e32_86 ++ (l2_86)
def l5_91 : Ent := e32_91
def l5_62 : Ent := e31_62
def l5_127 : Ent := e33_127
def t5 : Tr Ent := (.n 91 l5_91 (.n 49 l4_49 (.n 34 l2_34 (.n 23 l2_23 (.n 14 l1_14 (.n 5 l5_5 (.n 4 l5_4 .l .l) .l) (.n 21 l2_21 (.n 15 l1_15 .l .l) .l)) (.n 31 l1_31 (.n 29 l1_29 (.n 28 l2_28 .l .l) .l) (.n 33 l1_33 (.n 32 l4_32 .l .l) .l))) (.n 41 l3_41 (.n 37 l2_37 (.n 36 l3_36 (.n 35 l4_35 .l .l) .l) (.n 40 l4_40 (.n 38 l1_38 .l .l) .l)) (.n 47 l1_47 (.n 46 l2_46 (.n 44 l1_44 .l .l) .l) (.n 48 l1_48 .l .l)))) (.n 71 l3_71 (.n 59 l1_59 (.n 52 l3_52 (.n 51 l3_51 (.n 50 l5_50 .l .l) .l) (.n 58 l3_58 (.n 53 l3_53 .l .l) .l)) (.n 68 l1_68 (.n 63 l2_63 (.n 62 l5_62 .l .l) .l) (.n 70 l5_70 (.n 69 l3_69 .l .l) .l))) (.n 79 l2_79 (.n 74 l4_74 (.n 73 l4_73 (.n 72 l5_72 .l .l) .l) (.n 78 l5_78 (.n 75 l5_75 .l .l) .l)) (.n 85 l3_85 (.n 81 l1_81 (.n 80 l1_80 .l .l) .l) (.n 86 l5_86 .l .l))))) (.n 123 l3_123 (.n 106 l5_106 (.n 99 l1_99 (.n 96 l1_96 (.n 95 l3_95 (.n 94 l1_94 .l .l) .l) (.n 98 l1_98 (.n 97 l2_97 .l .l) .l)) (.n 102 l2_102 (.n 101 l3_101 (.n 100 l2_100 .l .l) .l) (.n 105 l2_105 (.n 104 l5_104 .l .l) .l))) (.n 114 l3_114 (.n 110 l4_110 (.n 108 l2_108 (.n 107 l5_107 .l .l) .l) (.n 112 l5_112 (.n 111 l2_111 .l .l) .l)) (.n 119 l1_119 (.n 118 l1_118 (.n 117 l1_117 .l .l) .l) (.n 121 l4_121 .l .l)))) (.n 146 l1_146 (.n 130 l2_130 (.n 126 l4_126 (.n 125 l1_125 (.n 124 l1_124 .l .l) .l) (.n 129 l1_129 (.n 127 l5_127 .l .l) .l)) (.n 134 l1_134 (.n 132 l2_132 (.n 131 l4_131 .l .l) .l) (.n 142 l1_142 (.n 136 l2_136 .l .l) .l))) (.n 155 l3_155 (.n 149 l2_149 (.n 148 l2_148 (.n 147 l1_147 .l .l) .l) (.n 151 l4_151 (.n 150 l1_150 .l .l) .l)) (.n 164 l1_164 (.n 163 l1_163 (.n 161 l3_161 .l .l) .l) (.n 172 l3_172 .l .l))))))
theorem t5_ok {Λ : Link} (hΛ : LinkOk Λ) (hp : Λ.prog = prog) (hl : Λ.lib = lib) : t5.All (AllC Λ) := by
  have h := t4_ok hΛ hp hl
  have c31 := chunk_at hΛ hp hl h k31_ok
  have c32 := chunk_at hΛ hp hl h k32_ok
  have c33 := chunk_at hΛ hp hl h k33_ok
  exact (Tr.all_n (c32 _ _ (.tail _ (.tail _ (.tail _ (.tail _ (.tail _ (.head _))))))) (Tr.all_n (Tr.all_find h rfl) (Tr.all_n (Tr.all_find h rfl) (Tr.all_n (Tr.all_find h rfl) (Tr.all_n (Tr.all_find h rfl) (Tr.all_n (c31 _ _ (.tail _ (.head _))) (Tr.all_n (c31 _ _ (.head _)) Tr.all_l Tr.all_l) Tr.all_l) (Tr.all_n (Tr.all_find h rfl) (Tr.all_n (Tr.all_find h rfl) Tr.all_l Tr.all_l) Tr.all_l)) (Tr.all_n (Tr.all_find h rfl) (Tr.all_n (Tr.all_find h rfl) (Tr.all_n (Tr.all_find h rfl) Tr.all_l Tr.all_l) Tr.all_l) (Tr.all_n (Tr.all_find h rfl) (Tr.all_n (Tr.all_find h rfl) Tr.all_l Tr.all_l) Tr.all_l))) (Tr.all_n (Tr.all_find h rfl) (Tr.all_n (Tr.all_find h rfl) (Tr.all_n (Tr.all_find h rfl) (Tr.all_n (Tr.all_find h rfl) Tr.all_l Tr.all_l) Tr.all_l) (Tr.all_n (Tr.all_find h rfl) (Tr.all_n (Tr.all_find h rfl) Tr.all_l Tr.all_l) Tr.all_l)) (Tr.all_n (Tr.all_find h rfl) (Tr.all_n (Tr.all_find h rfl) (Tr.all_n (Tr.all_find h rfl) Tr.all_l Tr.all_l) Tr.all_l) (Tr.all_n (Tr.all_find h rfl) Tr.all_l Tr.all_l)))) (Tr.all_n (Tr.all_find h rfl) (Tr.all_n (Tr.all_find h rfl) (Tr.all_n (Tr.all_find h rfl) (Tr.all_n (Tr.all_find h rfl) (Tr.all_n (.app (c31 _ _ (.tail _ (.tail _ (.head _)))) (Tr.all_find h rfl)) Tr.all_l Tr.all_l) Tr.all_l) (Tr.all_n (Tr.all_find h rfl) (Tr.all_n (Tr.all_find h rfl) Tr.all_l Tr.all_l) Tr.all_l)) (Tr.all_n (Tr.all_find h rfl) (Tr.all_n (Tr.all_find h rfl) (Tr.all_n (c31 _ _ (.tail _ (.tail _ (.tail _ (.head _))))) Tr.all_l Tr.all_l) Tr.all_l) (Tr.all_n (.app (c31 _ _ (.tail _ (.tail _ (.tail _ (.tail _ (.head _)))))) (c32 _ _ (.head _))) (Tr.all_n (Tr.all_find h rfl) Tr.all_l Tr.all_l) Tr.all_l))) (Tr.all_n (Tr.all_find h rfl) (Tr.all_n (Tr.all_find h rfl) (Tr.all_n (Tr.all_find h rfl) (Tr.all_n (c32 _ _ (.tail _ (.head _))) Tr.all_l Tr.all_l) Tr.all_l) (Tr.all_n (c32 _ _ (.tail _ (.tail _ (.tail _ (.head _))))) (Tr.all_n (.app (c32 _ _ (.tail _ (.tail _ (.head _)))) (Tr.all_find h rfl)) Tr.all_l Tr.all_l) Tr.all_l)) (Tr.all_n (Tr.all_find h rfl) (Tr.all_n (Tr.all_find h rfl) (Tr.all_n (Tr.all_find h rfl) Tr.all_l Tr.all_l) Tr.all_l) (Tr.all_n (.app (c32 _ _ (.tail _ (.tail _ (.tail _ (.tail _ (.head _)))))) (Tr.all_find h rfl)) Tr.all_l Tr.all_l))))) (Tr.all_n (Tr.all_find h rfl) (Tr.all_n (.app (c32 _ _ (.tail _ (.tail _ (.tail _ (.tail _ (.tail _ (.tail _ (.tail _ (.head _))))))))) (.app (c33 _ _ (.head _)) (Tr.all_find h rfl))) (Tr.all_n (Tr.all_find h rfl) (Tr.all_n (Tr.all_find h rfl) (Tr.all_n (Tr.all_find h rfl) (Tr.all_n (Tr.all_find h rfl) Tr.all_l Tr.all_l) Tr.all_l) (Tr.all_n (Tr.all_find h rfl) (Tr.all_n (Tr.all_find h rfl) Tr.all_l Tr.all_l) Tr.all_l)) (Tr.all_n (Tr.all_find h rfl) (Tr.all_n (Tr.all_find h rfl) (Tr.all_n (Tr.all_find h rfl) Tr.all_l Tr.all_l) Tr.all_l) (Tr.all_n (Tr.all_find h rfl) (Tr.all_n (c32 _ _ (.tail _ (.tail _ (.tail _ (.tail _ (.tail _ (.tail _ (.head _)))))))) Tr.all_l Tr.all_l) Tr.all_l))) (Tr.all_n (Tr.all_find h rfl) (Tr.all_n (Tr.all_find h rfl) (Tr.all_n (Tr.all_find h rfl) (Tr.all_n (c33 _ _ (.tail _ (.head _))) Tr.all_l Tr.all_l) Tr.all_l) (Tr.all_n (.app (c33 _ _ (.tail _ (.tail _ (.head _)))) (Tr.all_find h rfl)) (Tr.all_n (Tr.all_find h rfl) Tr.all_l Tr.all_l) Tr.all_l)) (Tr.all_n (Tr.all_find h rfl) (Tr.all_n (Tr.all_find h rfl) (Tr.all_n (Tr.all_find h rfl) Tr.all_l Tr.all_l) Tr.all_l) (Tr.all_n (Tr.all_find h rfl) Tr.all_l Tr.all_l)))) (Tr.all_n (Tr.all_find h rfl) (Tr.all_n (Tr.all_find h rfl) (Tr.all_n (Tr.all_find h rfl) (Tr.all_n (Tr.all_find h rfl) (Tr.all_n (Tr.all_find h rfl) Tr.all_l Tr.all_l) Tr.all_l) (Tr.all_n (Tr.all_find h rfl) (Tr.all_n (c33 _ _ (.tail _ (.tail _ (.tail _ (.head _))))) Tr.all_l Tr.all_l) Tr.all_l)) (Tr.all_n (Tr.all_find h rfl) (Tr.all_n (Tr.all_find h rfl) (Tr.all_n (Tr.all_find h rfl) Tr.all_l Tr.all_l) Tr.all_l) (Tr.all_n (Tr.all_find h rfl) (Tr.all_n (Tr.all_find h rfl) Tr.all_l Tr.all_l) Tr.all_l))) (Tr.all_n (Tr.all_find h rfl) (Tr.all_n (Tr.all_find h rfl) (Tr.all_n (Tr.all_find h rfl) (Tr.all_n (Tr.all_find h rfl) Tr.all_l Tr.all_l) Tr.all_l) (Tr.all_n (Tr.all_find h rfl) (Tr.all_n (Tr.all_find h rfl) Tr.all_l Tr.all_l) Tr.all_l)) (Tr.all_n (Tr.all_find h rfl) (Tr.all_n (Tr.all_find h rfl) (Tr.all_n (Tr.all_find h rfl) Tr.all_l Tr.all_l) Tr.all_l) (Tr.all_n (Tr.all_find h rfl) Tr.all_l Tr.all_l))))))
def e34_9 : Ent := [([.vsl true 2 [.vsl true 2 [j 0,j 1],.vsl true 2 [j 2,j 3]],.vsl true 3 [.vsl true 3 [j 0,j 1,j 0],.vsl true 3 [j 0,j 1,j 0],.vsl true 3 [j 0,j 0,j 0]]],.tup [.vsl true 2 [.vsl true 2 [j 2,j 4],.vsl true 2 [j 2,j 4]],j 0])]
def e34_20 : Ent := [([.vsl true 2 [.vsl true 2 [j 0,j 1],.vsl true 2 [j 2,j 3]],j 1,j 0],.tup [.vsl true 2 [.vsl true 2 [j 1,j 0],.vsl true 2 [j 3,j 2]],j 0])]
def e34_45 : Ent := [([j 2,.fn (.f 44) [] [.vptr [.vsl true 2 [.vsl true 2 [j 0,j 1],.vsl true 2 [j 2,j 3]]]]],.agg [j 3,.nils,j 2,.nils]),
  ([j 2,.fn (.f 47) [] [.vptr [.vsl true 2 [.vsl true 2 [j 0,j 1],.vsl true 2 [j 2,j 3]]]]],.agg [j 3,.nils,j 2,.nils]),
  ([j 2,.fn (.f 48) [] [.vptr [.vsl true 2 [.vsl true 2 [j 0,j 1],.vsl true 2 [j 2,j 3]]]]],.agg [j 7,.nils,j 2,.nils]),
  ([j 2,.fn (.f 52) [] [.vptr [.vsl true 2 [.vsl true 2 [j 0,j 1],.vsl true 2 [j 2,j 3]]],.vptr [j 1],.vptr [j 0]]],.agg [j 1,.nils,j 1,.nils])]
def e34_53 : Ent := [([.agg [.str [49,47,50],.str [49,47,50]]],j 0),
  ([.agg [.str [51,47,50],.str [48]]],j 0),
  ([.agg [.str [49,47,49,48],.str [48]]],j 0),
  ([.agg [.str [49,47,50],.str [48]]],j 0)]
def e34_54 : Ent := [([.agg [.str [49,47,50],.str [49,47,50]]],.agg [j 1,.nils,j 2,.nils,j 1,.nils,j 2,.nils]),
  ([.agg [.str [51,47,50],.str [48]]],.agg [j 3,.nils,j 2,.nils,j 0,.nils,j 1,.nils]),
  ([.agg [.str [48],.str [49]]],.agg [j 0,.nils,j 1,.nils,j 1,.nils,j 1,.nils]),
  ([.agg [.str [49,47,49,48],.str [48]]],.agg [j 1,.nils,j 10,.nils,j 0,.nils,j 1,.nils]),
  ([.agg [.str [48],.str [48]]],.agg [j 0,.nils,j 1,.nils,j 0,.nils,j 1,.nils]),
  ([.agg [.str [49,47,50],.str [48]]],.agg [j 1,.nils,j 2,.nils,j 0,.nils,j 1,.nils]),
  ([.agg [.str [49],.str [48]]],.agg [j 1,.nils,j 1,.nils,j 0,.nils,j 1,.nils])]
def e34_56 : Ent := [([.agg [j 1,j 1,j 0,.nils,j 1,.nils,j 0,.nils,j 1,.nils],.vsl true 2 [.vsl true 2 [j 0,j 1],.vsl true 2 [j 2,j 3]]],.agg [j 3,.nils,j 1,.nils])]
def e34_57 : Ent := [([.agg [j 3,.nils,j 2,.nils]],.tup [.str [51,47,50],j 0]),
  ([.agg [j 1,.nils,j 2,.nils]],.tup [.str [49,47,50],j 0])]
def k34 : List (Nat × Ent) := [(9,e34_9),(20,e34_20),(45,e34_45),(53,e34_53),(54,e34_54),(56,e34_56),(57,e34_57)]
theorem k34_ok : chunkOk prog lib t5 k34 = true := by decide +kernel
def e35_61 : Ent := [([.str [48],j 0],j 0),
  ([.str [53],j 0],j 0),
  ([.str [49,48],j 0],j 0),
  ([.str [49],j 1],j 0),
  ([.str [52],j 0],j 0)]
def e35_63 : Ent := [([.agg [.str [48],.str [48],.str [49,48]],.agg [j 5,.nils,j 1,.nils]],.bool true)]
def e35_84 : Ent := [([.vsl true 1 [.vsl true 2 [.str [49],.str [49]]]],j 0)]
def e35_88 : Ent := [([.vsl true 2 [.str [49],.str [49]]],.fsl true 4 2 [j 1,.nils,j 1,.nils,j 1,.nils,j 1,.nils]),
  ([.vsl true 1 [.str [51]]],.fsl true 4 1 [j 3,.nils,j 1,.nils])]
def e35_89 : Ent := [([.vsl false 1 [.vsl true 2 [j 1,.nils,j 1,.nils,j 1,.nils,j 1,.nils]],.vptr [.str [49]]],.fsl false 1 1 [.vsl false 1 [j 3,.nils,j 1,.nils]])]
def e35_90 : Ent := [([.vsl false 1 [.vsl false 1 [j 3,.nils,j 1,.nils]],.vsl true 1 [j 3,.nils,j 1,.nils]],.fsl true 4 1 [j 1,.nils,j 1,.nils])]
def e35_92 : Ent := [([.vsl true 2 [.vsl false 1 [j 1,.nils,j 1,.nils],.vsl false 1 [j 1,.nils,j 1,.nils]],.fn (.f 91) [] [.vptr [.vsl true 1 [j 1,.nils,j 1,.nils]]]],.fsl false 4 2 [j 1,.nils,j 1,.nils,j 1,.nils,j 1,.nils])]
def e35_103 : Ent := [([.agg [j 1,.nils,j 2,.nils],j 2],.tup [j 0,.agg [j 1,.nils,j 2,.nils]]),
  ([.agg [j 3,.nils,j 2,.nils],j 2],.tup [j 1,.agg [j 1,.nils,j 2,.nils]]),
  ([.agg [j 0,.nils,j 1,.nils],j 2],.tup [j 0,.agg [j 0,.nils,j 1,.nils]]),
  ([.agg [j 1,.nils,j 1,.nils],j 2],.tup [j 1,.agg [j 0,.nils,j 1,.nils]])]
def e35_104 : Ent := [([.agg [j 0,j 0,j 1,.nils,j 2,.nils,j 1,.nils,j 2,.nils]],.agg [j 1,.nils,j 4,.nils,j 1,.nils,j 4,.nils,j 1,.nils,j 4,.nils,j 1,.nils,j 4,.nils]),
  ([.agg [j 1,j 0,j 1,.nils,j 2,.nils,j 0,.nils,j 1,.nils]],.agg [j 1,.nils,j 2,.nils,j 1,.nils,j 2,.nils,j 0,.nils,j 1,.nils,j 0,.nils,j 1,.nils]),
  ([.agg [j 0,j 0,j 0,.nils,j 1,.nils,j 1,.nils,j 2,.nils]],.agg [j 1,.nils,j 2,.nils,j 0,.nils,j 1,.nils,j 1,.nils,j 2,.nils,j 0,.nils,j 1,.nils])]
def e35_113 : Ent := [([.agg [j 1,.nils,j 2,.nils,j 1,.nils,j 1,.nils]],.bool false)]
def k35 : List (Nat × Ent) := [(61,e35_61),(63,e35_63),(84,e35_84),(88,e35_88),(89,e35_89),(90,e35_90),(92,e35_92),(103,e35_103),(104,e35_104),(113,e35_113)]
theorem k35_ok : chunkOk prog lib t5 k35 = true := by decide +kernel
def e36_113 : Ent := [([.agg [j 0,.nils,j 1,.nils,j 1,.nils,j 2,.nils]],.bool false),
  ([.agg [j 1,.nils,j 24,.nils,j 0,.nils,j 1,.nils]],.bool false)]
def e36_160 : Ent := [([.vsl false 4 [j 1,.nils,j 2,.nils,j 0,.nils,j 1,.nils,j 0,.nils,j 1,.nils,j 0,.nils,j 1,.nils],.fn (.f 107) [] []],j (-1)),
  ([.vsl false 2 [j 1,.nils,j 1,.nils,j 1,.nils,j 1,.nils],.fn (.f 107) [] []],j (-1))]
def k36 : List (Nat × Ent) := [(113,e36_113),(160,e36_160)]
theorem k36_ok : chunkOk prog lib t5 k36 = true := by decide +kernel
def l6_160 : Ent := e36_160
def l6_103 : Ent := e35_103
def l6_104 : Ent := e35_104 ++ (l5_104)
def l6_9 : Ent := e34_9
def l6_45 : Ent := e34_45
def l6_113 : Ent := e35_113 ++ (e36_113)
def l6_20 : Ent := e34_20
def l6_84 : Ent := e35_84
def l6_53 : Ent := e34_53 ++ (l3_53)
def l6_54 : Ent := e34_54
def l6_56 : Ent := e34_56
def l6_88 : Ent := e35_88
def l6_57 : Ent := e34_57
def l6_89 : Ent := e35_89
def l6_90 : Ent := e35_90
def l6_92 : Ent := e35_92
def l6_61 : Ent := e35_61
def l6_63 : Ent := e35_63 ++ (l2_63)
def t6 : Tr Ent := (.n 88 l6_88 (.n 50 l5_50 (.n 34 l2_34 (.n 21 l2_21 (.n 14 l1_14 (.n 5 l5_5 (.n 4 l5_4 .l .l) (.n 9 l6_9 .l .l)) (.n 20 l6_20 (.n 15 l1_15 .l .l) .l)) (.n 31 l1_31 (.n 28 l2_28 (.n 23 l2_23 .l .l) (.n 29 l1_29 .l .l)) (.n 33 l1_33 (.n 32 l4_32 .l .l) .l))) (.n 44 l1_44 (.n 38 l1_38 (.n 36 l3_36 (.n 35 l4_35 .l .l) (.n 37 l2_37 .l .l)) (.n 41 l3_41 (.n 40 l4_40 .l .l) .l)) (.n 47 l1_47 (.n 46 l2_46 (.n 45 l6_45 .l .l) .l) (.n 49 l4_49 (.n 48 l1_48 .l .l) .l)))) (.n 70 l5_70 (.n 58 l3_58 (.n 54 l6_54 (.n 52 l3_52 (.n 51 l3_51 .l .l) (.n 53 l6_53 .l .l)) (.n 57 l6_57 (.n 56 l6_56 .l .l) .l)) (.n 63 l6_63 (.n 61 l6_61 (.n 59 l1_59 .l .l) (.n 62 l5_62 .l .l)) (.n 69 l3_69 (.n 68 l1_68 .l .l) .l))) (.n 79 l2_79 (.n 74 l4_74 (.n 72 l5_72 (.n 71 l3_71 .l .l) (.n 73 l4_73 .l .l)) (.n 78 l5_78 (.n 75 l5_75 .l .l) .l)) (.n 84 l6_84 (.n 81 l1_81 (.n 80 l1_80 .l .l) .l) (.n 86 l5_86 (.n 85 l3_85 .l .l) .l))))) (.n 119 l1_119 (.n 103 l6_103 (.n 96 l1_96 (.n 92 l6_92 (.n 90 l6_90 (.n 89 l6_89 .l .l) (.n 91 l5_91 .l .l)) (.n 95 l3_95 (.n 94 l1_94 .l .l) .l)) (.n 100 l2_100 (.n 98 l1_98 (.n 97 l2_97 .l .l) (.n 99 l1_99 .l .l)) (.n 102 l2_102 (.n 101 l3_101 .l .l) .l))) (.n 111 l2_111 (.n 107 l5_107 (.n 105 l2_105 (.n 104 l6_104 .l .l) (.n 106 l5_106 .l .l)) (.n 110 l4_110 (.n 108 l2_108 .l .l) .l)) (.n 114 l3_114 (.n 113 l6_113 (.n 112 l5_112 .l .l) .l) (.n 118 l1_118 (.n 117 l1_117 .l .l) .l)))) (.n 142 l1_142 (.n 129 l1_129 (.n 125 l1_125 (.n 123 l3_123 (.n 121 l4_121 .l .l) (.n 124 l1_124 .l .l)) (.n 127 l5_127 (.n 126 l4_126 .l .l) .l)) (.n 132 l2_132 (.n 131 l4_131 (.n 130 l2_130 .l .l) .l) (.n 136 l2_136 (.n 134 l1_134 .l .l) .l))) (.n 155 l3_155 (.n 149 l2_149 (.n 147 l1_147 (.n 146 l1_146 .l .l) (.n 148 l2_148 .l .l)) (.n 151 l4_151 (.n 150 l1_150 .l .l) .l)) (.n 163 l1_163 (.n 161 l3_161 (.n 160 l6_160 .l .l) .l) (.n 172 l3_172 (.n 164 l1_164 .l .l) .l))))))
theorem t6_ok {Λ : Link} (hΛ : LinkOk Λ) (hp : Λ.prog = prog) (hl : Λ.lib = lib) : t6.All (AllC Λ) := by
  have h := t5_ok hΛ hp hl
  have c34 := chunk_at hΛ hp hl h k34_ok
  have c35 := chunk_at hΛ hp hl h k35_ok
  have c36 := chunk_at hΛ hp hl h k36_ok
  exact (Tr.all_n (c35 _ _ (.tail _ (.tail _ (.tail _ (.head _))))) (Tr.all_n (Tr.all_find h rfl) (Tr.all_n (Tr.all_find h rfl) (Tr.all_n (Tr.all_find h rfl) (Tr.all_n (Tr.all_find h rfl) (Tr.all_n (Tr.all_find h rfl) (Tr.all_n (Tr.all_find h rfl) Tr.all_l Tr.all_l) (Tr.all_n (c34 _ _ (.head _)) Tr.all_l Tr.all_l)) (Tr.all_n (c34 _ _ (.tail _ (.head _))) (Tr.all_n (Tr.all_find h rfl) Tr.all_l Tr.all_l) Tr.all_l)) (Tr.all_n (Tr.all_find h rfl) (Tr.all_n (Tr.all_find h rfl) (Tr.all_n (Tr.all_find h rfl) Tr.all_l Tr.all_l) (Tr.all_n (Tr.all_find h rfl) Tr.all_l Tr.all_l)) (Tr.all_n (Tr.all_find h rfl) (Tr.all_n (Tr.all_find h rfl) Tr.all_l Tr.all_l) Tr.all_l))) (Tr.all_n (Tr.all_find h rfl) (Tr.all_n (Tr.all_find h rfl) (Tr.all_n (Tr.all_find h rfl) (Tr.all_n (Tr.all_find h rfl) Tr.all_l Tr.all_l) (Tr.all_n (Tr.all_find h rfl) Tr.all_l Tr.all_l)) (Tr.all_n (Tr.all_find h rfl) (Tr.all_n (Tr.all_find h rfl) Tr.all_l Tr.all_l) Tr.all_l)) (Tr.all_n (Tr.all_find h rfl) (Tr.all_n (Tr.all_find h rfl) (Tr.all_n (c34 _ _ (.tail _ (.tail _ (.head _)))) Tr.all_l Tr.all_l) Tr.all_l) (Tr.all_n (Tr.all_find h rfl) (Tr.all_n (Tr.all_find h rfl) Tr.all_l Tr.all_l) Tr.all_l)))) (Tr.all_n (Tr.all_find h rfl) (Tr.all_n (Tr.all_find h rfl) (Tr.all_n (c34 _ _ (.tail _ (.tail _ (.tail _ (.tail _ (.head _)))))) (Tr.all_n (Tr.all_find h rfl) (Tr.all_n (Tr.all_find h rfl) Tr.all_l Tr.all_l) (Tr.all_n (.app (c34 _ _ (.tail _ (.tail _ (.tail _ (.head _))))) (Tr.all_find h rfl)) Tr.all_l Tr.all_l)) (Tr.all_n (c34 _ _ (.tail _ (.tail _ (.tail _ (.tail _ (.tail _ (.tail _ (.head _)))))))) (Tr.all_n (c34 _ _ (.tail _ (.tail _ (.tail _ (.tail _ (.tail _ (.head _))))))) Tr.all_l Tr.all_l) Tr.all_l)) (Tr.all_n (.app (c35 _ _ (.tail _ (.head _))) (Tr.all_find h rfl)) (Tr.all_n (c35 _ _ (.head _)) (Tr.all_n (Tr.all_find h rfl) Tr.all_l Tr.all_l) (Tr.all_n (Tr.all_find h rfl) Tr.all_l Tr.all_l)) (Tr.all_n (Tr.all_find h rfl) (Tr.all_n (Tr.all_find h rfl) Tr.all_l Tr.all_l) Tr.all_l))) (Tr.all_n (Tr.all_find h rfl) (Tr.all_n (Tr.all_find h rfl) (Tr.all_n (Tr.all_find h rfl) (Tr.all_n (Tr.all_find h rfl) Tr.all_l Tr.all_l) (Tr.all_n (Tr.all_find h rfl) Tr.all_l Tr.all_l)) (Tr.all_n (Tr.all_find h rfl) (Tr.all_n (Tr.all_find h rfl) Tr.all_l Tr.all_l) Tr.all_l)) (Tr.all_n (c35 _ _ (.tail _ (.tail _ (.head _)))) (Tr.all_n (Tr.all_find h rfl) (Tr.all_n (Tr.all_find h rfl) Tr.all_l Tr.all_l) Tr.all_l) (Tr.all_n (Tr.all_find h rfl) (Tr.all_n (Tr.all_find h rfl) Tr.all_l Tr.all_l) Tr.all_l))))) (Tr.all_n (Tr.all_find h rfl) (Tr.all_n (c35 _ _ (.tail _ (.tail _ (.tail _ (.tail _ (.tail _ (.tail _ (.tail _ (.head _))))))))) (Tr.all_n (Tr.all_find h rfl) (Tr.all_n (c35 _ _ (.tail _ (.tail _ (.tail _ (.tail _ (.tail _ (.tail _ (.head _)))))))) (Tr.all_n (c35 _ _ (.tail _ (.tail _ (.tail _ (.tail _ (.tail _ (.head _))))))) (Tr.all_n (c35 _ _ (.tail _ (.tail _ (.tail _ (.tail _ (.head _)))))) Tr.all_l Tr.all_l) (Tr.all_n (Tr.all_find h rfl) Tr.all_l Tr.all_l)) (Tr.all_n (Tr.all_find h rfl) (Tr.all_n (Tr.all_find h rfl) Tr.all_l Tr.all_l) Tr.all_l)) (Tr.all_n (Tr.all_find h rfl) (Tr.all_n (Tr.all_find h rfl) (Tr.all_n (Tr.all_find h rfl) Tr.all_l Tr.all_l) (Tr.all_n (Tr.all_find h rfl) Tr.all_l Tr.all_l)) (Tr.all_n (Tr.all_find h rfl) (Tr.all_n (Tr.all_find h rfl) Tr.all_l Tr.all_l) Tr.all_l))) (Tr.all_n (Tr.all_find h rfl) (Tr.all_n (Tr.all_find h rfl) (Tr.all_n (Tr.all_find h rfl) (Tr.all_n (.app (c35 _ _ (.tail _ (.tail _ (.tail _ (.tail _ (.tail _ (.tail _ (.tail _ (.tail _ (.head _)))))))))) (Tr.all_find h rfl)) Tr.all_l Tr.all_l) (Tr.all_n (Tr.all_find h rfl) Tr.all_l Tr.all_l)) (Tr.all_n (Tr.all_find h rfl) (Tr.all_n (Tr.all_find h rfl) Tr.all_l Tr.all_l) Tr.all_l)) (Tr.all_n (Tr.all_find h rfl) (Tr.all_n (.app (c35 _ _ (.tail _ (.tail _ (.tail _ (.tail _ (.tail _ (.tail _ (.tail _ (.tail _ (.tail _ (.head _))))))))))) (c36 _ _ (.head _))) (Tr.all_n (Tr.all_find h rfl) Tr.all_l Tr.all_l) Tr.all_l) (Tr.all_n (Tr.all_find h rfl) (Tr.all_n (Tr.all_find h rfl) Tr.all_l Tr.all_l) Tr.all_l)))) (Tr.all_n (Tr.all_find h rfl) (Tr.all_n (Tr.all_find h rfl) (Tr.all_n (Tr.all_find h rfl) (Tr.all_n (Tr.all_find h rfl) (Tr.all_n (Tr.all_find h rfl) Tr.all_l Tr.all_l) (Tr.all_n (Tr.all_find h rfl) Tr.all_l Tr.all_l)) (Tr.all_n (Tr.all_find h rfl) (Tr.all_n (Tr.all_find h rfl) Tr.all_l Tr.all_l) Tr.all_l)) (Tr.all_n (Tr.all_find h rfl) (Tr.all_n (Tr.all_find h rfl) (Tr.all_n (Tr.all_find h rfl) Tr.all_l Tr.all_l) Tr.all_l) (Tr.all_n (Tr.all_find h rfl) (Tr.all_n (Tr.all_find h rfl) Tr.all_l Tr.all_l) Tr.all_l))) (Tr.all_n (Tr.all_find h rfl) (Tr.all_n (Tr.all_find h rfl) (Tr.all_n (Tr.all_find h rfl) (Tr.all_n (Tr.all_find h rfl) Tr.all_l Tr.all_l) (Tr.all_n (Tr.all_find h rfl) Tr.all_l Tr.all_l)) (Tr.all_n (Tr.all_find h rfl) (Tr.all_n (Tr.all_find h rfl) Tr.all_l Tr.all_l) Tr.all_l)) (Tr.all_n (Tr.all_find h rfl) (Tr.all_n (Tr.all_find h rfl) (Tr.all_n (c36 _ _ (.tail _ (.head _))) Tr.all_l Tr.all_l) Tr.all_l) (Tr.all_n (Tr.all_find h rfl) (Tr.all_n (Tr.all_find h rfl) Tr.all_l Tr.all_l) Tr.all_l))))))
def e37_16 : Ent := [([.vsl true 2 [.vsl true 2 [j 0,j 1],.vsl true 2 [j 2,j 3]]],.tup [.str [51,47,50],j 0])]
def e37_17 : Ent := [([.vsl true 2 [.vsl true 2 [j 0,j 1],.vsl true 2 [j 2,j 3]]],.tup [.str [53,47,52],j 0])]
def e37_18 : Ent := [([.vsl true 2 [.vsl true 2 [j 0,j 1],.vsl true 2 [j 2,j 3]],j 1,j 0],.tup [.str [49],j 0])]
def e37_55 : Ent := [([.agg [j 1,.nils,j 2,.nils,j 1,.nils,j 2,.nils],j 2],.agg [j 0,j 0,j 1,.nils,j 2,.nils,j 1,.nils,j 2,.nils]),
  ([.agg [j 3,.nils,j 2,.nils,j 0,.nils,j 1,.nils],j 2],.agg [j 1,j 0,j 1,.nils,j 2,.nils,j 0,.nils,j 1,.nils]),
  ([.agg [j 1,.nils,j 1,.nils,j 1,.nils,j 1,.nils],j 2],.agg [j 1,j 1,j 0,.nils,j 1,.nils,j 0,.nils,j 1,.nils]),
  ([.agg [j 0,.nils,j 1,.nils,j 1,.nils,j 2,.nils],j 2],.agg [j 0,j 0,j 0,.nils,j 1,.nils,j 1,.nils,j 2,.nils]),
  ([.agg [j 0,.nils,j 1,.nils,j 0,.nils,j 1,.nils],j 2],.agg [j 0,j 0,j 0,.nils,j 1,.nils,j 0,.nils,j 1,.nils])]
def e37_56 : Ent := [([.agg [j 0,j 0,j 1,.nils,j 2,.nils,j 1,.nils,j 2,.nils],.vsl true 2 [.vsl true 2 [j 0,j 1],.vsl true 2 [j 2,j 3]]],.agg [j 3,.nils,j 2,.nils]),
  ([.agg [j 1,j 0,j 1,.nils,j 2,.nils,j 0,.nils,j 1,.nils],.vsl true 2 [.vsl true 2 [j 0,j 1],.vsl true 2 [j 2,j 3]]],.agg [j 1,.nils,j 2,.nils]),
  ([.agg [j 0,j 0,j 0,.nils,j 1,.nils,j 1,.nils,j 2,.nils],.vsl true 2 [.vsl true 2 [j 0,j 1],.vsl true 2 [j 2,j 3]]],.agg [j 1,.nils,j 1,.nils])]
def e37_60 : Ent := [([.agg [.str [49,47,49,48],.str [48],.str [48]]],j 0),
  ([.agg [.str [48],.str [48],.str [49,48]]],j 0),
  ([.agg [.str [48],.str [48],.str [48]]],j 0)]
def e37_64 : Ent := [([.agg [.str [49,47,49,48],.str [48],.str [48]],.agg [j 5,.nils,j 1,.nils],.agg [.str [48],.str [49]]],.agg [j 1,.nils,j 2,.nils,j 1,.nils,j 1,.nils]),
  ([.agg [.str [48],.str [48],.str [49,48]],.agg [j 5,.nils,j 1,.nils],.agg [.str [48],.str [49]]],.agg [j 0,.nils,j 1,.nils,j 1,.nils,j 2,.nils]),
  ([.agg [.str [48],.str [48],.str [48]],.agg [j 5,.nils,j 1,.nils],.agg [.str [48],.str [48]]],.agg [j 0,.nils,j 1,.nils,j 0,.nils,j 1,.nils])]
def e37_65 : Ent := [([.agg [j 1,.nils,j 2,.nils,j 1,.nils,j 1,.nils]],.tup [.agg [.str [49,47,50],.str [49]],j 0]),
  ([.agg [j 0,.nils,j 1,.nils,j 1,.nils,j 2,.nils]],.tup [.agg [.str [48],.str [49,47,50]],j 0]),
  ([.agg [j 1,.nils,j 24,.nils,j 0,.nils,j 1,.nils]],.tup [.agg [.str [49,47,50,52],.str [48]],j 0])]
def k37 : List (Nat × Ent) := [(16,e37_16),(17,e37_17),(18,e37_18),(55,e37_55),(56,e37_56),(60,e37_60),(64,e37_64),(65,e37_65)]
theorem k37_ok : chunkOk prog lib t6 k37 = true := by decide +kernel
def e38_87 : Ent := [([.vsl true 1 [.vsl true 2 [.str [49],.str [49]]],.fn (.f 88) [] []],.fsl false 1 1 [.vsl true 2 [j 1,.nils,j 1,.nils,j 1,.nils,j 1,.nils]])]
def e38_115 : Ent := [([.agg [.vsl true 2 [.vsl true 2 [j 0,j 1],.vsl true 2 [j 2,j 3]],.str [53],.str [49],.str [49,47,50],.str [48],.str [48],.str [49,47,50],.str [48]]],j 0)]
def e38_122 : Ent := [([.vsl false 4 [j 1,.nils,j 2,.nils,j 0,.nils,j 1,.nils,j 0,.nils,j 1,.nils,j 0,.nils,j 1,.nils],.fn (.f 107) [] []],.bool false),
  ([.vsl false 2 [j 1,.nils,j 1,.nils,j 1,.nils,j 1,.nils],.fn (.f 107) [] []],.bool false)]
def k38 : List (Nat × Ent) := [(87,e38_87),(115,e38_115),(122,e38_122)]
theorem k38_ok : chunkOk prog lib t6 k38 = true := by decide +kernel
def l7_64 : Ent := e37_64
def l7_16 : Ent := e37_16
def l7_65 : Ent := e37_65
def l7_17 : Ent := e37_17
def l7_18 : Ent := e37_18
def l7_115 : Ent := e38_115
def l7_87 : Ent := e38_87
def l7_55 : Ent := e37_55
def l7_56 : Ent := e37_56 ++ (l6_56)
def l7_122 : Ent := e38_122
def l7_60 : Ent := e37_60
def t7 : Tr Ent := (.n 85 l3_85 (.n 50 l5_50 (.n 32 l4_32 (.n 18 l7_18 (.n 14 l1_14 (.n 5 l5_5 (.n 4 l5_4 .l .l) (.n 9 l6_9 .l .l)) (.n 16 l7_16 (.n 15 l1_15 .l .l) (.n 17 l7_17 .l .l))) (.n 28 l2_28 (.n 21 l2_21 (.n 20 l6_20 .l .l) (.n 23 l2_23 .l .l)) (.n 31 l1_31 (.n 29 l1_29 .l .l) .l))) (.n 41 l3_41 (.n 36 l3_36 (.n 34 l2_34 (.n 33 l1_33 .l .l) (.n 35 l4_35 .l .l)) (.n 38 l1_38 (.n 37 l2_37 .l .l) (.n 40 l4_40 .l .l))) (.n 47 l1_47 (.n 45 l6_45 (.n 44 l1_44 .l .l) (.n 46 l2_46 .l .l)) (.n 49 l4_49 (.n 48 l1_48 .l .l) .l)))) (.n 65 l7_65 (.n 58 l3_58 (.n 54 l6_54 (.n 52 l3_52 (.n 51 l3_51 .l .l) (.n 53 l6_53 .l .l)) (.n 56 l7_56 (.n 55 l7_55 .l .l) (.n 57 l6_57 .l .l))) (.n 62 l5_62 (.n 60 l7_60 (.n 59 l1_59 .l .l) (.n 61 l6_61 .l .l)) (.n 64 l7_64 (.n 63 l6_63 .l .l) .l))) (.n 74 l4_74 (.n 71 l3_71 (.n 69 l3_69 (.n 68 l1_68 .l .l) (.n 70 l5_70 .l .l)) (.n 73 l4_73 (.n 72 l5_72 .l .l) .l)) (.n 80 l1_80 (.n 78 l5_78 (.n 75 l5_75 .l .l) (.n 79 l2_79 .l .l)) (.n 84 l6_84 (.n 81 l1_81 .l .l) .l))))) (.n 117 l1_117 (.n 101 l3_101 (.n 94 l1_94 (.n 89 l6_89 (.n 87 l7_87 (.n 86 l5_86 .l .l) (.n 88 l6_88 .l .l)) (.n 91 l5_91 (.n 90 l6_90 .l .l) (.n 92 l6_92 .l .l))) (.n 98 l1_98 (.n 96 l1_96 (.n 95 l3_95 .l .l) (.n 97 l2_97 .l .l)) (.n 100 l2_100 (.n 99 l1_99 .l .l) .l))) (.n 108 l2_108 (.n 105 l2_105 (.n 103 l6_103 (.n 102 l2_102 .l .l) (.n 104 l6_104 .l .l)) (.n 107 l5_107 (.n 106 l5_106 .l .l) .l)) (.n 113 l6_113 (.n 111 l2_111 (.n 110 l4_110 .l .l) (.n 112 l5_112 .l .l)) (.n 115 l7_115 (.n 114 l3_114 .l .l) .l)))) (.n 136 l2_136 (.n 126 l4_126 (.n 122 l7_122 (.n 119 l1_119 (.n 118 l1_118 .l .l) (.n 121 l4_121 .l .l)) (.n 124 l1_124 (.n 123 l3_123 .l .l) (.n 125 l1_125 .l .l))) (.n 131 l4_131 (.n 129 l1_129 (.n 127 l5_127 .l .l) (.n 130 l2_130 .l .l)) (.n 134 l1_134 (.n 132 l2_132 .l .l) .l))) (.n 151 l4_151 (.n 148 l2_148 (.n 146 l1_146 (.n 142 l1_142 .l .l) (.n 147 l1_147 .l .l)) (.n 150 l1_150 (.n 149 l2_149 .l .l) .l)) (.n 163 l1_163 (.n 160 l6_160 (.n 155 l3_155 .l .l) (.n 161 l3_161 .l .l)) (.n 172 l3_172 (.n 164 l1_164 .l .l) .l))))))
theorem t7_ok {Λ : Link} (hΛ : LinkOk Λ) (hp : Λ.prog = prog) (hl : Λ.lib = lib) : t7.All (AllC Λ) := by
  have h := t6_ok hΛ hp hl
  have c37 := chunk_at hΛ hp hl h k37_ok
  have c38 := chunk_at hΛ hp hl h k38_ok
  exact (Tr.all_n (Tr.all_find h rfl) (Tr.all_n (Tr.all_find h rfl) (Tr.all_n (Tr.all_find h rfl) (Tr.all_n (c37 _ _ (.tail _ (.tail _ (.head _)))) (Tr.all_n (Tr.all_find h rfl) (Tr.all_n (Tr.all_find h rfl) (Tr.all_n (Tr.all_find h rfl) Tr.all_l Tr.all_l) (Tr.all_n (Tr.all_find h rfl) Tr.all_l Tr.all_l)) (Tr.all_n (c37 _ _ (.head _)) (Tr.all_n (Tr.all_find h rfl) Tr.all_l Tr.all_l) (Tr.all_n (c37 _ _ (.tail _ (.head _))) Tr.all_l Tr.all_l))) (Tr.all_n (Tr.all_find h rfl) (Tr.all_n (Tr.all_find h rfl) (Tr.all_n (Tr.all_find h rfl) Tr.all_l Tr.all_l) (Tr.all_n (Tr.all_find h rfl) Tr.all_l Tr.all_l)) (Tr.all_n (Tr.all_find h rfl) (Tr.all_n (Tr.all_find h rfl) Tr.all_l Tr.all_l) Tr.all_l))) (Tr.all_n (Tr.all_find h rfl) (Tr.all_n (Tr.all_find h rfl) (Tr.all_n (Tr.all_find h rfl) (Tr.all_n (Tr.all_find h rfl) Tr.all_l Tr.all_l) (Tr.all_n (Tr.all_find h rfl) Tr.all_l Tr.all_l)) (Tr.all_n (Tr.all_find h rfl) (Tr.all_n (Tr.all_find h rfl) Tr.all_l Tr.all_l) (Tr.all_n (Tr.all_find h rfl) Tr.all_l Tr.all_l))) (Tr.all_n (Tr.all_find h rfl) (Tr.all_n (Tr.all_find h rfl) (Tr.all_n (Tr.all_find h rfl) Tr.all_l Tr.all_l) (Tr.all_n (Tr.all_find h rfl) Tr.all_l Tr.all_l)) (Tr.all_n (Tr.all_find h rfl) (Tr.all_n (Tr.all_find h rfl) Tr.all_l Tr.all_l) Tr.all_l)))) (Tr.all_n (c37 _ _ (.tail _ (.tail _ (.tail _ (.tail _ (.tail _ (.tail _ (.tail _ (.head _))))))))) (Tr.all_n (Tr.all_find h rfl) (Tr.all_n (Tr.all_find h rfl) (Tr.all_n (Tr.all_find h rfl) (Tr.all_n (Tr.all_find h rfl) Tr.all_l Tr.all_l) (Tr.all_n (Tr.all_find h rfl) Tr.all_l Tr.all_l)) (Tr.all_n (.app (c37 _ _ (.tail _ (.tail _ (.tail _ (.tail _ (.head _)))))) (Tr.all_find h rfl)) (Tr.all_n (c37 _ _ (.tail _ (.tail _ (.tail _ (.head _))))) Tr.all_l Tr.all_l) (Tr.all_n (Tr.all_find h rfl) Tr.all_l Tr.all_l))) (Tr.all_n (Tr.all_find h rfl) (Tr.all_n (c37 _ _ (.tail _ (.tail _ (.tail _ (.tail _ (.tail _ (.head _))))))) (Tr.all_n (Tr.all_find h rfl) Tr.all_l Tr.all_l) (Tr.all_n (Tr.all_find h rfl) Tr.all_l Tr.all_l)) (Tr.all_n (c37 _ _ (.tail _ (.tail _ (.tail _ (.tail _ (.tail _ (.tail _ (.head _)))))))) (Tr.all_n (Tr.all_find h rfl) Tr.all_l Tr.all_l) Tr.all_l))) (Tr.all_n (Tr.all_find h rfl) (Tr.all_n (Tr.all_find h rfl) (Tr.all_n (Tr.all_find h rfl) (Tr.all_n (Tr.all_find h rfl) Tr.all_l Tr.all_l) (Tr.all_n (Tr.all_find h rfl) Tr.all_l Tr.all_l)) (Tr.all_n (Tr.all_find h rfl) (Tr.all_n (Tr.all_find h rfl) Tr.all_l Tr.all_l) Tr.all_l)) (Tr.all_n (Tr.all_find h rfl) (Tr.all_n (Tr.all_find h rfl) (Tr.all_n (Tr.all_find h rfl) Tr.all_l Tr.all_l) (Tr.all_n (Tr.all_find h rfl) Tr.all_l Tr.all_l)) (Tr.all_n (Tr.all_find h rfl) (Tr.all_n (Tr.all_find h rfl) Tr.all_l Tr.all_l) Tr.all_l))))) (Tr.all_n (Tr.all_find h rfl) (Tr.all_n (Tr.all_find h rfl) (Tr.all_n (Tr.all_find h rfl) (Tr.all_n (Tr.all_find h rfl) (Tr.all_n (c38 _ _ (.head _)) (Tr.all_n (Tr.all_find h rfl) Tr.all_l Tr.all_l) (Tr.all_n (Tr.all_find h rfl) Tr.all_l Tr.all_l)) (Tr.all_n (Tr.all_find h rfl) (Tr.all_n (Tr.all_find h rfl) Tr.all_l Tr.all_l) (Tr.all_n (Tr.all_find h rfl) Tr.all_l Tr.all_l))) (Tr.all_n (Tr.all_find h rfl) (Tr.all_n (Tr.all_find h rfl) (Tr.all_n (Tr.all_find h rfl) Tr.all_l Tr.all_l) (Tr.all_n (Tr.all_find h rfl) Tr.all_l Tr.all_l)) (Tr.all_n (Tr.all_find h rfl) (Tr.all_n (Tr.all_find h rfl) Tr.all_l Tr.all_l) Tr.all_l))) (Tr.all_n (Tr.all_find h rfl) (Tr.all_n (Tr.all_find h rfl) (Tr.all_n (Tr.all_find h rfl) (Tr.all_n (Tr.all_find h rfl) Tr.all_l Tr.all_l) (Tr.all_n (Tr.all_find h rfl) Tr.all_l Tr.all_l)) (Tr.all_n (Tr.all_find h rfl) (Tr.all_n (Tr.all_find h rfl) Tr.all_l Tr.all_l) Tr.all_l)) (Tr.all_n (Tr.all_find h rfl) (Tr.all_n (Tr.all_find h rfl) (Tr.all_n (Tr.all_find h rfl) Tr.all_l Tr.all_l) (Tr.all_n (Tr.all_find h rfl) Tr.all_l Tr.all_l)) (Tr.all_n (c38 _ _ (.tail _ (.head _))) (Tr.all_n (Tr.all_find h rfl) Tr.all_l Tr.all_l) Tr.all_l)))) (Tr.all_n (Tr.all_find h rfl) (Tr.all_n (Tr.all_find h rfl) (Tr.all_n (c38 _ _ (.tail _ (.tail _ (.head _)))) (Tr.all_n (Tr.all_find h rfl) (Tr.all_n (Tr.all_find h rfl) Tr.all_l Tr.all_l) (Tr.all_n (Tr.all_find h rfl) Tr.all_l Tr.all_l)) (Tr.all_n (Tr.all_find h rfl) (Tr.all_n (Tr.all_find h rfl) Tr.all_l Tr.all_l) (Tr.all_n (Tr.all_find h rfl) Tr.all_l Tr.all_l))) (Tr.all_n (Tr.all_find h rfl) (Tr.all_n (Tr.all_find h rfl) (Tr.all_n (Tr.all_find h rfl) Tr.all_l Tr.all_l) (Tr.all_n (Tr.all_find h rfl) Tr.all_l Tr.all_l)) (Tr.all_n (Tr.all_find h rfl) (Tr.all_n (Tr.all_find h rfl) Tr.all_l Tr.all_l) Tr.all_l))) (Tr.all_n (Tr.all_find h rfl) (Tr.all_n (Tr.all_find h rfl) (Tr.all_n (Tr.all_find h rfl) (Tr.all_n (Tr.all_find h rfl) Tr.all_l Tr.all_l) (Tr.all_n (Tr.all_find h rfl) Tr.all_l Tr.all_l)) (Tr.all_n (Tr.all_find h rfl) (Tr.all_n (Tr.all_find h rfl) Tr.all_l Tr.all_l) Tr.all_l)) (Tr.all_n (Tr.all_find h rfl) (Tr.all_n (Tr.all_find h rfl) (Tr.all_n (Tr.all_find h rfl) Tr.all_l Tr.all_l) (Tr.all_n (Tr.all_find h rfl) Tr.all_l Tr.all_l)) (Tr.all_n (Tr.all_find h rfl) (Tr.all_n (Tr.all_find h rfl) Tr.all_l Tr.all_l) Tr.all_l))))))
def e39_19 : Ent := [([.vsl true 2 [.vsl true 2 [j 0,j 1],.vsl true 2 [j 2,j 3]],.agg [.str [49,47,50],.str [49,47,50]]],.tup [.str [51,47,50],j 0]),
  ([.vsl true 2 [.vsl true 2 [j 0,j 1],.vsl true 2 [j 2,j 3]],.agg [.str [51,47,50],.str [48]]],.tup [.str [49,47,50],j 0])]
def e39_22 : Ent := [([.agg [.str [49,47,49,48],.str [48],.str [48]],.str [53],.agg [.str [48],.str [49]]],.tup [.agg [.str [49,47,50],.str [49]],j 0]),
  ([.agg [.str [48],.str [48],.str [49,48]],.str [53],.agg [.str [48],.str [49]]],.tup [.agg [.str [48],.str [49,47,50]],j 0])]
def e39_25 : Ent := [([.agg [.str [48],.str [48],.str [49,48]],.str [52],.agg [.str [48],.str [48]],.agg [.str [49],.str [48]]],.tup [.agg [.str [49,47,50,52],.str [48]],j 0])]
def e39_66 : Ent := [([.agg [.vsl true 2 [.vsl true 2 [j 0,j 1],.vsl true 2 [j 2,j 3]],.str [53],.str [49],.str [49,47,50],.str [48],.str [48],.str [49,47,50],.str [48]],.agg [.str [49,47,49,48],.str [48],.str [48]],.agg [.str [48],.str [49]],j 1],j 0),
  ([.agg [.vsl true 2 [.vsl true 2 [j 0,j 1],.vsl true 2 [j 2,j 3]],.str [53],.str [49],.str [49,47,50],.str [48],.str [48],.str [49,47,50],.str [48]],.agg [.str [48],.str [48],.str [49,48]],.agg [.str [48],.str [49]],j 0],j 0)]
def e39_77 : Ent := [([.vsl true 1 [.str [48],.str [48],.str [48]],.fn (.f 60) [] []],.fsl false 1 1 [j 0])]
def e39_83 : Ent := [([.vsl false 4 [j 1,.nils,j 2,.nils,j 0,.nils,j 1,.nils,j 0,.nils,j 1,.nils,j 0,.nils,j 1,.nils]],.tup [.vsl true 4 [.str [49,47,50],.str [48],.str [48],.str [48]],j 0]),
  ([.vsl false 2 [j 1,.nils,j 1,.nils,j 1,.nils,j 1,.nils]],.tup [.vsl true 2 [.str [49],.str [49]],j 0])]
def e39_116 : Ent := [([.agg [.vsl true 2 [.vsl true 2 [j 0,j 1],.vsl true 2 [j 2,j 3]],.str [53],.str [49],.str [49,47,50],.str [48],.str [48],.str [49,47,50],.str [48]],.agg [.str [49,47,49,48],.str [48],.str [48]],.agg [.str [48],.str [49]],j 1],.agg [j 1,.nils,j 1,.nils,j 1,.nils,j 1,.nils]),
  ([.agg [.vsl true 2 [.vsl true 2 [j 0,j 1],.vsl true 2 [j 2,j 3]],.str [53],.str [49],.str [49,47,50],.str [48],.str [48],.str [49,47,50],.str [48]],.agg [.str [48],.str [48],.str [49,48]],.agg [.str [48],.str [49]],j 0],.agg [j 0,.nils,j 1,.nils,j 1,.nils,j 2,.nils]),
  ([.agg [.vsl true 2 [.vsl true 2 [j 0,j 1],.vsl true 2 [j 2,j 3]],.str [53],.str [49],.str [49,47,50],.str [48],.str [48],.str [49,47,50],.str [48]],.agg [.str [48],.str [48],.str [48]],.agg [.str [48],.str [48]],j 0],.agg [j 0,.nils,j 1,.nils,j 0,.nils,j 1,.nils])]
def e39_120 : Ent := [([.vsl true 1 [.vsl true 2 [.vsl true 2 [j 0,j 1],.vsl true 2 [j 2,j 3]],.str [53],.str [49],.str [49,47,50],.str [48],.str [48],.str [49,47,50],.str [48]],.fn (.f 115) [] []],.fsl false 1 1 [j 0])]
def k39 : List (Nat × Ent) := [(19,e39_19),(22,e39_22),(25,e39_25),(66,e39_66),(77,e39_77),(83,e39_83),(116,e39_116),(120,e39_120)]
theorem k39_ok : chunkOk prog lib t7 k39 = true := by decide +kernel
def l8_66 : Ent := e39_66
def l8_83 : Ent := e39_83
def l8_19 : Ent := e39_19
def l8_116 : Ent := e39_116
def l8_22 : Ent := e39_22
def l8_120 : Ent := e39_120
def l8_25 : Ent := e39_25
def l8_77 : Ent := e39_77
def t8 : Tr Ent := (.n 83 l8_83 (.n 49 l4_49 (.n 29 l1_29 (.n 18 l7_18 (.n 14 l1_14 (.n 5 l5_5 (.n 4 l5_4 .l .l) (.n 9 l6_9 .l .l)) (.n 16 l7_16 (.n 15 l1_15 .l .l) (.n 17 l7_17 .l .l))) (.n 22 l8_22 (.n 20 l6_20 (.n 19 l8_19 .l .l) (.n 21 l2_21 .l .l)) (.n 25 l8_25 (.n 23 l2_23 .l .l) (.n 28 l2_28 .l .l)))) (.n 38 l1_38 (.n 34 l2_34 (.n 32 l4_32 (.n 31 l1_31 .l .l) (.n 33 l1_33 .l .l)) (.n 36 l3_36 (.n 35 l4_35 .l .l) (.n 37 l2_37 .l .l))) (.n 45 l6_45 (.n 41 l3_41 (.n 40 l4_40 .l .l) (.n 44 l1_44 .l .l)) (.n 47 l1_47 (.n 46 l2_46 .l .l) (.n 48 l1_48 .l .l))))) (.n 65 l7_65 (.n 57 l6_57 (.n 53 l6_53 (.n 51 l3_51 (.n 50 l5_50 .l .l) (.n 52 l3_52 .l .l)) (.n 55 l7_55 (.n 54 l6_54 .l .l) (.n 56 l7_56 .l .l))) (.n 61 l6_61 (.n 59 l1_59 (.n 58 l3_58 .l .l) (.n 60 l7_60 .l .l)) (.n 63 l6_63 (.n 62 l5_62 .l .l) (.n 64 l7_64 .l .l)))) (.n 74 l4_74 (.n 70 l5_70 (.n 68 l1_68 (.n 66 l8_66 .l .l) (.n 69 l3_69 .l .l)) (.n 72 l5_72 (.n 71 l3_71 .l .l) (.n 73 l4_73 .l .l))) (.n 79 l2_79 (.n 77 l8_77 (.n 75 l5_75 .l .l) (.n 78 l5_78 .l .l)) (.n 81 l1_81 (.n 80 l1_80 .l .l) .l))))) (.n 116 l8_116 (.n 100 l2_100 (.n 91 l5_91 (.n 87 l7_87 (.n 85 l3_85 (.n 84 l6_84 .l .l) (.n 86 l5_86 .l .l)) (.n 89 l6_89 (.n 88 l6_88 .l .l) (.n 90 l6_90 .l .l))) (.n 96 l1_96 (.n 94 l1_94 (.n 92 l6_92 .l .l) (.n 95 l3_95 .l .l)) (.n 98 l1_98 (.n 97 l2_97 .l .l) (.n 99 l1_99 .l .l)))) (.n 108 l2_108 (.n 104 l6_104 (.n 102 l2_102 (.n 101 l3_101 .l .l) (.n 103 l6_103 .l .l)) (.n 106 l5_106 (.n 105 l2_105 .l .l) (.n 107 l5_107 .l .l))) (.n 113 l6_113 (.n 111 l2_111 (.n 110 l4_110 .l .l) (.n 112 l5_112 .l .l)) (.n 115 l7_115 (.n 114 l3_114 .l .l) .l)))) (.n 134 l1_134 (.n 124 l1_124 (.n 120 l8_120 (.n 118 l1_118 (.n 117 l1_117 .l .l) (.n 119 l1_119 .l .l)) (.n 122 l7_122 (.n 121 l4_121 .l .l) (.n 123 l3_123 .l .l))) (.n 129 l1_129 (.n 126 l4_126 (.n 125 l1_125 .l .l) (.n 127 l5_127 .l .l)) (.n 131 l4_131 (.n 130 l2_130 .l .l) (.n 132 l2_132 .l .l)))) (.n 151 l4_151 (.n 147 l1_147 (.n 142 l1_142 (.n 136 l2_136 .l .l) (.n 146 l1_146 .l .l)) (.n 149 l2_149 (.n 148 l2_148 .l .l) (.n 150 l1_150 .l .l))) (.n 163 l1_163 (.n 160 l6_160 (.n 155 l3_155 .l .l) (.n 161 l3_161 .l .l)) (.n 172 l3_172 (.n 164 l1_164 .l .l) .l))))))
theorem t8_ok {Λ : Link} (hΛ : LinkOk Λ) (hp : Λ.prog = prog) (hl : Λ.lib = lib) : t8.All (AllC Λ) := by
  have h := t7_ok hΛ hp hl
  have c39 := chunk_at hΛ hp hl h k39_ok
  exact (Tr.all_n (c39 _ _ (.tail _ (.tail _ (.tail _ (.tail _ (.tail _ (.head _))))))) (Tr.all_n (Tr.all_find h rfl) (Tr.all_n (Tr.all_find h rfl) (Tr.all_n (Tr.all_find h rfl) (Tr.all_n (Tr.all_find h rfl) (Tr.all_n (Tr.all_find h rfl) (Tr.all_n (Tr.all_find h rfl) Tr.all_l Tr.all_l) (Tr.all_n (Tr.all_find h rfl) Tr.all_l Tr.all_l)) (Tr.all_n (Tr.all_find h rfl) (Tr.all_n (Tr.all_find h rfl) Tr.all_l Tr.all_l) (Tr.all_n (Tr.all_find h rfl) Tr.all_l Tr.all_l))) (Tr.all_n (c39 _ _ (.tail _ (.head _))) (Tr.all_n (Tr.all_find h rfl) (Tr.all_n (c39 _ _ (.head _)) Tr.all_l Tr.all_l) (Tr.all_n (Tr.all_find h rfl) Tr.all_l Tr.all_l)) (Tr.all_n (c39 _ _ (.tail _ (.tail _ (.head _)))) (Tr.all_n (Tr.all_find h rfl) Tr.all_l Tr.all_l) (Tr.all_n (Tr.all_find h rfl) Tr.all_l Tr.all_l)))) (Tr.all_n (Tr.all_find h rfl) (Tr.all_n (Tr.all_find h rfl) (Tr.all_n (Tr.all_find h rfl) (Tr.all_n (Tr.all_find h rfl) Tr.all_l Tr.all_l) (Tr.all_n (Tr.all_find h rfl) Tr.all_l Tr.all_l)) (Tr.all_n (Tr.all_find h rfl) (Tr.all_n (Tr.all_find h rfl) Tr.all_l Tr.all_l) (Tr.all_n (Tr.all_find h rfl) Tr.all_l Tr.all_l))) (Tr.all_n (Tr.all_find h rfl) (Tr.all_n (Tr.all_find h rfl) (Tr.all_n (Tr.all_find h rfl) Tr.all_l Tr.all_l) (Tr.all_n (Tr.all_find h rfl) Tr.all_l Tr.all_l)) (Tr.all_n (Tr.all_find h rfl) (Tr.all_n (Tr.all_find h rfl) Tr.all_l Tr.all_l) (Tr.all_n (Tr.all_find h rfl) Tr.all_l Tr.all_l))))) (Tr.all_n (Tr.all_find h rfl) (Tr.all_n (Tr.all_find h rfl) (Tr.all_n (Tr.all_find h rfl) (Tr.all_n (Tr.all_find h rfl) (Tr.all_n (Tr.all_find h rfl) Tr.all_l Tr.all_l) (Tr.all_n (Tr.all_find h rfl) Tr.all_l Tr.all_l)) (Tr.all_n (Tr.all_find h rfl) (Tr.all_n (Tr.all_find h rfl) Tr.all_l Tr.all_l) (Tr.all_n (Tr.all_find h rfl) Tr.all_l Tr.all_l))) (Tr.all_n (Tr.all_find h rfl) (Tr.all_n (Tr.all_find h rfl) (Tr.all_n (Tr.all_find h rfl) Tr.all_l Tr.all_l) (Tr.all_n (Tr.all_find h rfl) Tr.all_l Tr.all_l)) (Tr.all_n (Tr.all_find h rfl) (Tr.all_n (Tr.all_find h rfl) Tr.all_l Tr.all_l) (Tr.all_n (Tr.all_find h rfl) Tr.all_l Tr.all_l)))) (Tr.all_n (Tr.all_find h rfl) (Tr.all_n (Tr.all_find h rfl) (Tr.all_n (Tr.all_find h rfl) (Tr.all_n (c39 _ _ (.tail _ (.tail _ (.tail _ (.head _))))) Tr.all_l Tr.all_l) (Tr.all_n (Tr.all_find h rfl) Tr.all_l Tr.all_l)) (Tr.all_n (Tr.all_find h rfl) (Tr.all_n (Tr.all_find h rfl) Tr.all_l Tr.all_l) (Tr.all_n (Tr.all_find h rfl) Tr.all_l Tr.all_l))) (Tr.all_n (Tr.all_find h rfl) (Tr.all_n (c39 _ _ (.tail _ (.tail _ (.tail _ (.tail _ (.head _)))))) (Tr.all_n (Tr.all_find h rfl) Tr.all_l Tr.all_l) (Tr.all_n (Tr.all_find h rfl) Tr.all_l Tr.all_l)) (Tr.all_n (Tr.all_find h rfl) (Tr.all_n (Tr.all_find h rfl) Tr.all_l Tr.all_l) Tr.all_l))))) (Tr.all_n (c39 _ _ (.tail _ (.tail _ (.tail _ (.tail _ (.tail _ (.tail _ (.head _)))))))) (Tr.all_n (Tr.all_find h rfl) (Tr.all_n (Tr.all_find h rfl) (Tr.all_n (Tr.all_find h rfl) (Tr.all_n (Tr.all_find h rfl) (Tr.all_n (Tr.all_find h rfl) Tr.all_l Tr.all_l) (Tr.all_n (Tr.all_find h rfl) Tr.all_l Tr.all_l)) (Tr.all_n (Tr.all_find h rfl) (Tr.all_n (Tr.all_find h rfl) Tr.all_l Tr.all_l) (Tr.all_n (Tr.all_find h rfl) Tr.all_l Tr.all_l))) (Tr.all_n (Tr.all_find h rfl) (Tr.all_n (Tr.all_find h rfl) (Tr.all_n (Tr.all_find h rfl) Tr.all_l Tr.all_l) (Tr.all_n (Tr.all_find h rfl) Tr.all_l Tr.all_l)) (Tr.all_n (Tr.all_find h rfl) (Tr.all_n (Tr.all_find h rfl) Tr.all_l Tr.all_l) (Tr.all_n (Tr.all_find h rfl) Tr.all_l Tr.all_l)))) (Tr.all_n (Tr.all_find h rfl) (Tr.all_n (Tr.all_find h rfl) (Tr.all_n (Tr.all_find h rfl) (Tr.all_n (Tr.all_find h rfl) Tr.all_l Tr.all_l) (Tr.all_n (Tr.all_find h rfl) Tr.all_l Tr.all_l)) (Tr.all_n (Tr.all_find h rfl) (Tr.all_n (Tr.all_find h rfl) Tr.all_l Tr.all_l) (Tr.all_n (Tr.all_find h rfl) Tr.all_l Tr.all_l))) (Tr.all_n (Tr.all_find h rfl) (Tr.all_n (Tr.all_find h rfl) (Tr.all_n (Tr.all_find h rfl) Tr.all_l Tr.all_l) (Tr.all_n (Tr.all_find h rfl) Tr.all_l Tr.all_l)) (Tr.all_n (Tr.all_find h rfl) (Tr.all_n (Tr.all_find h rfl) Tr.all_l Tr.all_l) Tr.all_l)))) (Tr.all_n (Tr.all_find h rfl) (Tr.all_n (Tr.all_find h rfl) (Tr.all_n (c39 _ _ (.tail _ (.tail _ (.tail _ (.tail _ (.tail _ (.tail _ (.tail _ (.head _))))))))) (Tr.all_n (Tr.all_find h rfl) (Tr.all_n (Tr.all_find h rfl) Tr.all_l Tr.all_l) (Tr.all_n (Tr.all_find h rfl) Tr.all_l Tr.all_l)) (Tr.all_n (Tr.all_find h rfl) (Tr.all_n (Tr.all_find h rfl) Tr.all_l Tr.all_l) (Tr.all_n (Tr.all_find h rfl) Tr.all_l Tr.all_l))) (Tr.all_n (Tr.all_find h rfl) (Tr.all_n (Tr.all_find h rfl) (Tr.all_n (Tr.all_find h rfl) Tr.all_l Tr.all_l) (Tr.all_n (Tr.all_find h rfl) Tr.all_l Tr.all_l)) (Tr.all_n (Tr.all_find h rfl) (Tr.all_n (Tr.all_find h rfl) Tr.all_l Tr.all_l) (Tr.all_n (Tr.all_find h rfl) Tr.all_l Tr.all_l)))) (Tr.all_n (Tr.all_find h rfl) (Tr.all_n (Tr.all_find h rfl) (Tr.all_n (Tr.all_find h rfl) (Tr.all_n (Tr.all_find h rfl) Tr.all_l Tr.all_l) (Tr.all_n (Tr.all_find h rfl) Tr.all_l Tr.all_l)) (Tr.all_n (Tr.all_find h rfl) (Tr.all_n (Tr.all_find h rfl) Tr.all_l Tr.all_l) (Tr.all_n (Tr.all_find h rfl) Tr.all_l Tr.all_l))) (Tr.all_n (Tr.all_find h rfl) (Tr.all_n (Tr.all_find h rfl) (Tr.all_n (Tr.all_find h rfl) Tr.all_l Tr.all_l) (Tr.all_n (Tr.all_find h rfl) Tr.all_l Tr.all_l)) (Tr.all_n (Tr.all_find h rfl) (Tr.all_n (Tr.all_find h rfl) Tr.all_l Tr.all_l) Tr.all_l))))))
def e40_27 : Ent := [([.vsl true 1 [.vsl true 2 [.str [49],.str [49]]],.vsl true 1 [.str [51]],.str [49]],.tup [.vsl true 2 [.str [49],.str [49]],j 0])]
def e40_67 : Ent := [([.agg [.vsl true 2 [.vsl true 2 [j 0,j 1],.vsl true 2 [j 2,j 3]],.str [53],.str [49],.str [49,47,50],.str [48],.str [48],.str [49,47,50],.str [48]],.agg [.str [49,47,49,48],.str [48],.str [48]],.agg [.str [48],.str [49]],j 1],.agg [j 3,.nils,j 2,.nils]),
  ([.agg [.vsl true 2 [.vsl true 2 [j 0,j 1],.vsl true 2 [j 2,j 3]],.str [53],.str [49],.str [49,47,50],.str [48],.str [48],.str [49,47,50],.str [48]],.agg [.str [48],.str [48],.str [49,48]],.agg [.str [48],.str [49]],j 0],.agg [j 1,.nils,j 2,.nils])]
def e40_76 : Ent := [([.vsl true 1 [.vsl true 2 [.vsl true 2 [j 0,j 1],.vsl true 2 [j 2,j 3]],.str [53],.str [49],.str [49,47,50],.str [48],.str [48],.str [49,47,50],.str [48]]],j 0)]
def e40_82 : Ent := [([.vsl true 1 [.vsl true 2 [.vsl true 2 [j 0,j 1],.vsl true 2 [j 2,j 3]],.str [53],.str [49],.str [49,47,50],.str [48],.str [48],.str [49,47,50],.str [48]],.agg [.str [48],.str [48],.str [48]],.agg [.str [48],.str [48]],j 0,j 4],.fsl false 4 4 [j 1,.nils,j 2,.nils,j 0,.nils,j 1,.nils,j 0,.nils,j 1,.nils,j 0,.nils,j 1,.nils])]
def k40 : List (Nat × Ent) := [(27,e40_27),(67,e40_67),(76,e40_76),(82,e40_82)]
theorem k40_ok : chunkOk prog lib t8 k40 = true := by decide +kernel
def l9_82 : Ent := e40_82
def l9_67 : Ent := e40_67
def l9_27 : Ent := e40_27
def l9_76 : Ent := e40_76
def t9 : Tr Ent := (.n 81 l1_81 (.n 49 l4_49 (.n 29 l1_29 (.n 19 l8_19 (.n 15 l1_15 (.n 9 l6_9 (.n 5 l5_5 (.n 4 l5_4 .l .l) .l) (.n 14 l1_14 .l .l)) (.n 17 l7_17 (.n 16 l7_16 .l .l) (.n 18 l7_18 .l .l))) (.n 23 l2_23 (.n 21 l2_21 (.n 20 l6_20 .l .l) (.n 22 l8_22 .l .l)) (.n 27 l9_27 (.n 25 l8_25 .l .l) (.n 28 l2_28 .l .l)))) (.n 38 l1_38 (.n 34 l2_34 (.n 32 l4_32 (.n 31 l1_31 .l .l) (.n 33 l1_33 .l .l)) (.n 36 l3_36 (.n 35 l4_35 .l .l) (.n 37 l2_37 .l .l))) (.n 45 l6_45 (.n 41 l3_41 (.n 40 l4_40 .l .l) (.n 44 l1_44 .l .l)) (.n 47 l1_47 (.n 46 l2_46 .l .l) (.n 48 l1_48 .l .l))))) (.n 65 l7_65 (.n 57 l6_57 (.n 53 l6_53 (.n 51 l3_51 (.n 50 l5_50 .l .l) (.n 52 l3_52 .l .l)) (.n 55 l7_55 (.n 54 l6_54 .l .l) (.n 56 l7_56 .l .l))) (.n 61 l6_61 (.n 59 l1_59 (.n 58 l3_58 .l .l) (.n 60 l7_60 .l .l)) (.n 63 l6_63 (.n 62 l5_62 .l .l) (.n 64 l7_64 .l .l)))) (.n 73 l4_73 (.n 69 l3_69 (.n 67 l9_67 (.n 66 l8_66 .l .l) (.n 68 l1_68 .l .l)) (.n 71 l3_71 (.n 70 l5_70 .l .l) (.n 72 l5_72 .l .l))) (.n 77 l8_77 (.n 75 l5_75 (.n 74 l4_74 .l .l) (.n 76 l9_76 .l .l)) (.n 79 l2_79 (.n 78 l5_78 .l .l) (.n 80 l1_80 .l .l)))))) (.n 115 l7_115 (.n 98 l1_98 (.n 89 l6_89 (.n 85 l3_85 (.n 83 l8_83 (.n 82 l9_82 .l .l) (.n 84 l6_84 .l .l)) (.n 87 l7_87 (.n 86 l5_86 .l .l) (.n 88 l6_88 .l .l))) (.n 94 l1_94 (.n 91 l5_91 (.n 90 l6_90 .l .l) (.n 92 l6_92 .l .l)) (.n 96 l1_96 (.n 95 l3_95 .l .l) (.n 97 l2_97 .l .l)))) (.n 106 l5_106 (.n 102 l2_102 (.n 100 l2_100 (.n 99 l1_99 .l .l) (.n 101 l3_101 .l .l)) (.n 104 l6_104 (.n 103 l6_103 .l .l) (.n 105 l2_105 .l .l))) (.n 111 l2_111 (.n 108 l2_108 (.n 107 l5_107 .l .l) (.n 110 l4_110 .l .l)) (.n 113 l6_113 (.n 112 l5_112 .l .l) (.n 114 l3_114 .l .l))))) (.n 132 l2_132 (.n 123 l3_123 (.n 119 l1_119 (.n 117 l1_117 (.n 116 l8_116 .l .l) (.n 118 l1_118 .l .l)) (.n 121 l4_121 (.n 120 l8_120 .l .l) (.n 122 l7_122 .l .l))) (.n 127 l5_127 (.n 125 l1_125 (.n 124 l1_124 .l .l) (.n 126 l4_126 .l .l)) (.n 130 l2_130 (.n 129 l1_129 .l .l) (.n 131 l4_131 .l .l)))) (.n 150 l1_150 (.n 146 l1_146 (.n 136 l2_136 (.n 134 l1_134 .l .l) (.n 142 l1_142 .l .l)) (.n 148 l2_148 (.n 147 l1_147 .l .l) (.n 149 l2_149 .l .l))) (.n 161 l3_161 (.n 155 l3_155 (.n 151 l4_151 .l .l) (.n 160 l6_160 .l .l)) (.n 164 l1_164 (.n 163 l1_163 .l .l) (.n 172 l3_172 .l .l)))))))
theorem t9_ok {Λ : Link} (hΛ : LinkOk Λ) (hp : Λ.prog = prog) (hl : Λ.lib = lib) : t9.All (AllC Λ) := by
  have h := t8_ok hΛ hp hl
  have c40 := chunk_at hΛ hp hl h k40_ok
  exact (Tr.all_n (Tr.all_find h rfl) (Tr.all_n (Tr.all_find h rfl) (Tr.all_n (Tr.all_find h rfl) (Tr.all_n (Tr.all_find h rfl) (Tr.all_n (Tr.all_find h rfl) (Tr.all_n (Tr.all_find h rfl) (Tr.all_n (Tr.all_find h rfl) (Tr.all_n (Tr.all_find h rfl) Tr.all_l Tr.all_l) Tr.all_l) (Tr.all_n (Tr.all_find h rfl) Tr.all_l Tr.all_l)) (Tr.all_n (Tr.all_find h rfl) (Tr.all_n (Tr.all_find h rfl) Tr.all_l Tr.all_l) (Tr.all_n (Tr.all_find h rfl) Tr.all_l Tr.all_l))) (Tr.all_n (Tr.all_find h rfl) (Tr.all_n (Tr.all_find h rfl) (Tr.all_n (Tr.all_find h rfl) Tr.all_l Tr.all_l) (Tr.all_n (Tr.all_find h rfl) Tr.all_l Tr.all_l)) (Tr.all_n (c40 _ _ (.head _)) (Tr.all_n (Tr.all_find h rfl) Tr.all_l Tr.all_l) (Tr.all_n (Tr.all_find h rfl) Tr.all_l Tr.all_l)))) (Tr.all_n (Tr.all_find h rfl) (Tr.all_n (Tr.all_find h rfl) (Tr.all_n (Tr.all_find h rfl) (Tr.all_n (Tr.all_find h rfl) Tr.all_l Tr.all_l) (Tr.all_n (Tr.all_find h rfl) Tr.all_l Tr.all_l)) (Tr.all_n (Tr.all_find h rfl) (Tr.all_n (Tr.all_find h rfl) Tr.all_l Tr.all_l) (Tr.all_n (Tr.all_find h rfl) Tr.all_l Tr.all_l))) (Tr.all_n (Tr.all_find h rfl) (Tr.all_n (Tr.all_find h rfl) (Tr.all_n (Tr.all_find h rfl) Tr.all_l Tr.all_l) (Tr.all_n (Tr.all_find h rfl) Tr.all_l Tr.all_l)) (Tr.all_n (Tr.all_find h rfl) (Tr.all_n (Tr.all_find h rfl) Tr.all_l Tr.all_l) (Tr.all_n (Tr.all_find h rfl) Tr.all_l Tr.all_l))))) (Tr.all_n (Tr.all_find h rfl) (Tr.all_n (Tr.all_find h rfl) (Tr.all_n (Tr.all_find h rfl) (Tr.all_n (Tr.all_find h rfl) (Tr.all_n (Tr.all_find h rfl) Tr.all_l Tr.all_l) (Tr.all_n (Tr.all_find h rfl) Tr.all_l Tr.all_l)) (Tr.all_n (Tr.all_find h rfl) (Tr.all_n (Tr.all_find h rfl) Tr.all_l Tr.all_l) (Tr.all_n (Tr.all_find h rfl) Tr.all_l Tr.all_l))) (Tr.all_n (Tr.all_find h rfl) (Tr.all_n (Tr.all_find h rfl) (Tr.all_n (Tr.all_find h rfl) Tr.all_l Tr.all_l) (Tr.all_n (Tr.all_find h rfl) Tr.all_l Tr.all_l)) (Tr.all_n (Tr.all_find h rfl) (Tr.all_n (Tr.all_find h rfl) Tr.all_l Tr.all_l) (Tr.all_n (Tr.all_find h rfl) Tr.all_l Tr.all_l)))) (Tr.all_n (Tr.all_find h rfl) (Tr.all_n (Tr.all_find h rfl) (Tr.all_n (c40 _ _ (.tail _ (.head _))) (Tr.all_n (Tr.all_find h rfl) Tr.all_l Tr.all_l) (Tr.all_n (Tr.all_find h rfl) Tr.all_l Tr.all_l)) (Tr.all_n (Tr.all_find h rfl) (Tr.all_n (Tr.all_find h rfl) Tr.all_l Tr.all_l) (Tr.all_n (Tr.all_find h rfl) Tr.all_l Tr.all_l))) (Tr.all_n (Tr.all_find h rfl) (Tr.all_n (Tr.all_find h rfl) (Tr.all_n (Tr.all_find h rfl) Tr.all_l Tr.all_l) (Tr.all_n (c40 _ _ (.tail _ (.tail _ (.head _)))) Tr.all_l Tr.all_l)) (Tr.all_n (Tr.all_find h rfl) (Tr.all_n (Tr.all_find h rfl) Tr.all_l Tr.all_l) (Tr.all_n (Tr.all_find h rfl) Tr.all_l Tr.all_l)))))) (Tr.all_n (Tr.all_find h rfl) (Tr.all_n (Tr.all_find h rfl) (Tr.all_n (Tr.all_find h rfl) (Tr.all_n (Tr.all_find h rfl) (Tr.all_n (Tr.all_find h rfl) (Tr.all_n (c40 _ _ (.tail _ (.tail _ (.tail _ (.head _))))) Tr.all_l Tr.all_l) (Tr.all_n (Tr.all_find h rfl) Tr.all_l Tr.all_l)) (Tr.all_n (Tr.all_find h rfl) (Tr.all_n (Tr.all_find h rfl) Tr.all_l Tr.all_l) (Tr.all_n (Tr.all_find h rfl) Tr.all_l Tr.all_l))) (Tr.all_n (Tr.all_find h rfl) (Tr.all_n (Tr.all_find h rfl) (Tr.all_n (Tr.all_find h rfl) Tr.all_l Tr.all_l) (Tr.all_n (Tr.all_find h rfl) Tr.all_l Tr.all_l)) (Tr.all_n (Tr.all_find h rfl) (Tr.all_n (Tr.all_find h rfl) Tr.all_l Tr.all_l) (Tr.all_n (Tr.all_find h rfl) Tr.all_l Tr.all_l)))) (Tr.all_n (Tr.all_find h rfl) (Tr.all_n (Tr.all_find h rfl) (Tr.all_n (Tr.all_find h rfl) (Tr.all_n (Tr.all_find h rfl) Tr.all_l Tr.all_l) (Tr.all_n (Tr.all_find h rfl) Tr.all_l Tr.all_l)) (Tr.all_n (Tr.all_find h rfl) (Tr.all_n (Tr.all_find h rfl) Tr.all_l Tr.all_l) (Tr.all_n (Tr.all_find h rfl) Tr.all_l Tr.all_l))) (Tr.all_n (Tr.all_find h rfl) (Tr.all_n (Tr.all_find h rfl) (Tr.all_n (Tr.all_find h rfl) Tr.all_l Tr.all_l) (Tr.all_n (Tr.all_find h rfl) Tr.all_l Tr.all_l)) (Tr.all_n (Tr.all_find h rfl) (Tr.all_n (Tr.all_find h rfl) Tr.all_l Tr.all_l) (Tr.all_n (Tr.all_find h rfl) Tr.all_l Tr.all_l))))) (Tr.all_n (Tr.all_find h rfl) (Tr.all_n (Tr.all_find h rfl) (Tr.all_n (Tr.all_find h rfl) (Tr.all_n (Tr.all_find h rfl) (Tr.all_n (Tr.all_find h rfl) Tr.all_l Tr.all_l) (Tr.all_n (Tr.all_find h rfl) Tr.all_l Tr.all_l)) (Tr.all_n (Tr.all_find h rfl) (Tr.all_n (Tr.all_find h rfl) Tr.all_l Tr.all_l) (Tr.all_n (Tr.all_find h rfl) Tr.all_l Tr.all_l))) (Tr.all_n (Tr.all_find h rfl) (Tr.all_n (Tr.all_find h rfl) (Tr.all_n (Tr.all_find h rfl) Tr.all_l Tr.all_l) (Tr.all_n (Tr.all_find h rfl) Tr.all_l Tr.all_l)) (Tr.all_n (Tr.all_find h rfl) (Tr.all_n (Tr.all_find h rfl) Tr.all_l Tr.all_l) (Tr.all_n (Tr.all_find h rfl) Tr.all_l Tr.all_l)))) (Tr.all_n (Tr.all_find h rfl) (Tr.all_n (Tr.all_find h rfl) (Tr.all_n (Tr.all_find h rfl) (Tr.all_n (Tr.all_find h rfl) Tr.all_l Tr.all_l) (Tr.all_n (Tr.all_find h rfl) Tr.all_l Tr.all_l)) (Tr.all_n (Tr.all_find h rfl) (Tr.all_n (Tr.all_find h rfl) Tr.all_l Tr.all_l) (Tr.all_n (Tr.all_find h rfl) Tr.all_l Tr.all_l))) (Tr.all_n (Tr.all_find h rfl) (Tr.all_n (Tr.all_find h rfl) (Tr.all_n (Tr.all_find h rfl) Tr.all_l Tr.all_l) (Tr.all_n (Tr.all_find h rfl) Tr.all_l Tr.all_l)) (Tr.all_n (Tr.all_find h rfl) (Tr.all_n (Tr.all_find h rfl) Tr.all_l Tr.all_l) (Tr.all_n (Tr.all_find h rfl) Tr.all_l Tr.all_l)))))))
def e41_24 : Ent := [([.agg [.vsl true 2 [.vsl true 2 [j 0,j 1],.vsl true 2 [j 2,j 3]],.str [53],.str [49],.str [49,47,50],.str [48],.str [48],.str [49,47,50],.str [48]],.agg [.str [49,47,49,48],.str [48],.str [48]],.agg [.str [48],.str [49]],j 1],.tup [.str [51,47,50],j 0]),
  ([.agg [.vsl true 2 [.vsl true 2 [j 0,j 1],.vsl true 2 [j 2,j 3]],.str [53],.str [49],.str [49,47,50],.str [48],.str [48],.str [49,47,50],.str [48]],.agg [.str [48],.str [48],.str [49,48]],.agg [.str [48],.str [49]],j 0],.tup [.str [49,47,50],j 0])]
def e41_26 : Ent := [([.vsl true 1 [.vsl true 2 [.vsl true 2 [j 0,j 1],.vsl true 2 [j 2,j 3]],.str [53],.str [49],.str [49,47,50],.str [48],.str [48],.str [49,47,50],.str [48]],.vsl true 1 [.str [48],.str [48],.str [48]],.vsl true 1 [.str [48],.str [48]],j 0],.tup [.fsl false 1 1 [.vsl true 4 [.str [49,47,50],.str [48],.str [48],.str [48]]],j 0])]
def k41 : List (Nat × Ent) := [(24,e41_24),(26,e41_26)]
theorem k41_ok : chunkOk prog lib t9 k41 = true := by decide +kernel
def l10_24 : Ent := e41_24
def l10_26 : Ent := e41_26
def t10 : Tr Ent := (.n 80 l1_80 (.n 47 l1_47 (.n 27 l9_27 (.n 19 l8_19 (.n 15 l1_15 (.n 9 l6_9 (.n 5 l5_5 (.n 4 l5_4 .l .l) .l) (.n 14 l1_14 .l .l)) (.n 17 l7_17 (.n 16 l7_16 .l .l) (.n 18 l7_18 .l .l))) (.n 23 l2_23 (.n 21 l2_21 (.n 20 l6_20 .l .l) (.n 22 l8_22 .l .l)) (.n 25 l8_25 (.n 24 l10_24 .l .l) (.n 26 l10_26 .l .l)))) (.n 36 l3_36 (.n 32 l4_32 (.n 29 l1_29 (.n 28 l2_28 .l .l) (.n 31 l1_31 .l .l)) (.n 34 l2_34 (.n 33 l1_33 .l .l) (.n 35 l4_35 .l .l))) (.n 41 l3_41 (.n 38 l1_38 (.n 37 l2_37 .l .l) (.n 40 l4_40 .l .l)) (.n 45 l6_45 (.n 44 l1_44 .l .l) (.n 46 l2_46 .l .l))))) (.n 64 l7_64 (.n 56 l7_56 (.n 52 l3_52 (.n 50 l5_50 (.n 49 l4_49 (.n 48 l1_48 .l .l) .l) (.n 51 l3_51 .l .l)) (.n 54 l6_54 (.n 53 l6_53 .l .l) (.n 55 l7_55 .l .l))) (.n 60 l7_60 (.n 58 l3_58 (.n 57 l6_57 .l .l) (.n 59 l1_59 .l .l)) (.n 62 l5_62 (.n 61 l6_61 .l .l) (.n 63 l6_63 .l .l)))) (.n 72 l5_72 (.n 68 l1_68 (.n 66 l8_66 (.n 65 l7_65 .l .l) (.n 67 l9_67 .l .l)) (.n 70 l5_70 (.n 69 l3_69 .l .l) (.n 71 l3_71 .l .l))) (.n 76 l9_76 (.n 74 l4_74 (.n 73 l4_73 .l .l) (.n 75 l5_75 .l .l)) (.n 78 l5_78 (.n 77 l8_77 .l .l) (.n 79 l2_79 .l .l)))))) (.n 115 l7_115 (.n 98 l1_98 (.n 89 l6_89 (.n 85 l3_85 (.n 83 l8_83 (.n 82 l9_82 (.n 81 l1_81 .l .l) .l) (.n 84 l6_84 .l .l)) (.n 87 l7_87 (.n 86 l5_86 .l .l) (.n 88 l6_88 .l .l))) (.n 94 l1_94 (.n 91 l5_91 (.n 90 l6_90 .l .l) (.n 92 l6_92 .l .l)) (.n 96 l1_96 (.n 95 l3_95 .l .l) (.n 97 l2_97 .l .l)))) (.n 106 l5_106 (.n 102 l2_102 (.n 100 l2_100 (.n 99 l1_99 .l .l) (.n 101 l3_101 .l .l)) (.n 104 l6_104 (.n 103 l6_103 .l .l) (.n 105 l2_105 .l .l))) (.n 111 l2_111 (.n 108 l2_108 (.n 107 l5_107 .l .l) (.n 110 l4_110 .l .l)) (.n 113 l6_113 (.n 112 l5_112 .l .l) (.n 114 l3_114 .l .l))))) (.n 132 l2_132 (.n 123 l3_123 (.n 119 l1_119 (.n 117 l1_117 (.n 116 l8_116 .l .l) (.n 118 l1_118 .l .l)) (.n 121 l4_121 (.n 120 l8_120 .l .l) (.n 122 l7_122 .l .l))) (.n 127 l5_127 (.n 125 l1_125 (.n 124 l1_124 .l .l) (.n 126 l4_126 .l .l)) (.n 130 l2_130 (.n 129 l1_129 .l .l) (.n 131 l4_131 .l .l)))) (.n 150 l1_150 (.n 146 l1_146 (.n 136 l2_136 (.n 134 l1_134 .l .l) (.n 142 l1_142 .l .l)) (.n 148 l2_148 (.n 147 l1_147 .l .l) (.n 149 l2_149 .l .l))) (.n 161 l3_161 (.n 155 l3_155 (.n 151 l4_151 .l .l) (.n 160 l6_160 .l .l)) (.n 164 l1_164 (.n 163 l1_163 .l .l) (.n 172 l3_172 .l .l)))))))
theorem t10_ok {Λ : Link} (hΛ : LinkOk Λ) (hp : Λ.prog = prog) (hl : Λ.lib = lib) : t10.All (AllC Λ) := by
  have h := t9_ok hΛ hp hl
  have c41 := chunk_at hΛ hp hl h k41_ok
  exact (Tr.all_n (Tr.all_find h rfl) (Tr.all_n (Tr.all_find h rfl) (Tr.all_n (Tr.all_find h rfl) (Tr.all_n (Tr.all_find h rfl) (Tr.all_n (Tr.all_find h rfl) (Tr.all_n (Tr.all_find h rfl) (Tr.all_n (Tr.all_find h rfl) (Tr.all_n (Tr.all_find h rfl) Tr.all_l Tr.all_l) Tr.all_l) (Tr.all_n (Tr.all_find h rfl) Tr.all_l Tr.all_l)) (Tr.all_n (Tr.all_find h rfl) (Tr.all_n (Tr.all_find h rfl) Tr.all_l Tr.all_l) (Tr.all_n (Tr.all_find h rfl) Tr.all_l Tr.all_l))) (Tr.all_n (Tr.all_find h rfl) (Tr.all_n (Tr.all_find h rfl) (Tr.all_n (Tr.all_find h rfl) Tr.all_l Tr.all_l) (Tr.all_n (Tr.all_find h rfl) Tr.all_l Tr.all_l)) (Tr.all_n (Tr.all_find h rfl) (Tr.all_n (c41 _ _ (.head _)) Tr.all_l Tr.all_l) (Tr.all_n (c41 _ _ (.tail _ (.head _))) Tr.all_l Tr.all_l)))) (Tr.all_n (Tr.all_find h rfl) (Tr.all_n (Tr.all_find h rfl) (Tr.all_n (Tr.all_find h rfl) (Tr.all_n (Tr.all_find h rfl) Tr.all_l Tr.all_l) (Tr.all_n (Tr.all_find h rfl) Tr.all_l Tr.all_l)) (Tr.all_n (Tr.all_find h rfl) (Tr.all_n (Tr.all_find h rfl) Tr.all_l Tr.all_l) (Tr.all_n (Tr.all_find h rfl) Tr.all_l Tr.all_l))) (Tr.all_n (Tr.all_find h rfl) (Tr.all_n (Tr.all_find h rfl) (Tr.all_n (Tr.all_find h rfl) Tr.all_l Tr.all_l) (Tr.all_n (Tr.all_find h rfl) Tr.all_l Tr.all_l)) (Tr.all_n (Tr.all_find h rfl) (Tr.all_n (Tr.all_find h rfl) Tr.all_l Tr.all_l) (Tr.all_n (Tr.all_find h rfl) Tr.all_l Tr.all_l))))) (Tr.all_n (Tr.all_find h rfl) (Tr.all_n (Tr.all_find h rfl) (Tr.all_n (Tr.all_find h rfl) (Tr.all_n (Tr.all_find h rfl) (Tr.all_n (Tr.all_find h rfl) (Tr.all_n (Tr.all_find h rfl) Tr.all_l Tr.all_l) Tr.all_l) (Tr.all_n (Tr.all_find h rfl) Tr.all_l Tr.all_l)) (Tr.all_n (Tr.all_find h rfl) (Tr.all_n (Tr.all_find h rfl) Tr.all_l Tr.all_l) (Tr.all_n (Tr.all_find h rfl) Tr.all_l Tr.all_l))) (Tr.all_n (Tr.all_find h rfl) (Tr.all_n (Tr.all_find h rfl) (Tr.all_n (Tr.all_find h rfl) Tr.all_l Tr.all_l) (Tr.all_n (Tr.all_find h rfl) Tr.all_l Tr.all_l)) (Tr.all_n (Tr.all_find h rfl) (Tr.all_n (Tr.all_find h rfl) Tr.all_l Tr.all_l) (Tr.all_n (Tr.all_find h rfl) Tr.all_l Tr.all_l)))) (Tr.all_n (Tr.all_find h rfl) (Tr.all_n (Tr.all_find h rfl) (Tr.all_n (Tr.all_find h rfl) (Tr.all_n (Tr.all_find h rfl) Tr.all_l Tr.all_l) (Tr.all_n (Tr.all_find h rfl) Tr.all_l Tr.all_l)) (Tr.all_n (Tr.all_find h rfl) (Tr.all_n (Tr.all_find h rfl) Tr.all_l Tr.all_l) (Tr.all_n (Tr.all_find h rfl) Tr.all_l Tr.all_l))) (Tr.all_n (Tr.all_find h rfl) (Tr.all_n (Tr.all_find h rfl) (Tr.all_n (Tr.all_find h rfl) Tr.all_l Tr.all_l) (Tr.all_n (Tr.all_find h rfl) Tr.all_l Tr.all_l)) (Tr.all_n (Tr.all_find h rfl) (Tr.all_n (Tr.all_find h rfl) Tr.all_l Tr.all_l) (Tr.all_n (Tr.all_find h rfl) Tr.all_l Tr.all_l)))))) (Tr.all_n (Tr.all_find h rfl) (Tr.all_n (Tr.all_find h rfl) (Tr.all_n (Tr.all_find h rfl) (Tr.all_n (Tr.all_find h rfl) (Tr.all_n (Tr.all_find h rfl) (Tr.all_n (Tr.all_find h rfl) (Tr.all_n (Tr.all_find h rfl) Tr.all_l Tr.all_l) Tr.all_l) (Tr.all_n (Tr.all_find h rfl) Tr.all_l Tr.all_l)) (Tr.all_n (Tr.all_find h rfl) (Tr.all_n (Tr.all_find h rfl) Tr.all_l Tr.all_l) (Tr.all_n (Tr.all_find h rfl) Tr.all_l Tr.all_l))) (Tr.all_n (Tr.all_find h rfl) (Tr.all_n (Tr.all_find h rfl) (Tr.all_n (Tr.all_find h rfl) Tr.all_l Tr.all_l) (Tr.all_n (Tr.all_find h rfl) Tr.all_l Tr.all_l)) (Tr.all_n (Tr.all_find h rfl) (Tr.all_n (Tr.all_find h rfl) Tr.all_l Tr.all_l) (Tr.all_n (Tr.all_find h rfl) Tr.all_l Tr.all_l)))) (Tr.all_n (Tr.all_find h rfl) (Tr.all_n (Tr.all_find h rfl) (Tr.all_n (Tr.all_find h rfl) (Tr.all_n (Tr.all_find h rfl) Tr.all_l Tr.all_l) (Tr.all_n (Tr.all_find h rfl) Tr.all_l Tr.all_l)) (Tr.all_n (Tr.all_find h rfl) (Tr.all_n (Tr.all_find h rfl) Tr.all_l Tr.all_l) (Tr.all_n (Tr.all_find h rfl) Tr.all_l Tr.all_l))) (Tr.all_n (Tr.all_find h rfl) (Tr.all_n (Tr.all_find h rfl) (Tr.all_n (Tr.all_find h rfl) Tr.all_l Tr.all_l) (Tr.all_n (Tr.all_find h rfl) Tr.all_l Tr.all_l)) (Tr.all_n (Tr.all_find h rfl) (Tr.all_n (Tr.all_find h rfl) Tr.all_l Tr.all_l) (Tr.all_n (Tr.all_find h rfl) Tr.all_l Tr.all_l))))) (Tr.all_n (Tr.all_find h rfl) (Tr.all_n (Tr.all_find h rfl) (Tr.all_n (Tr.all_find h rfl) (Tr.all_n (Tr.all_find h rfl) (Tr.all_n (Tr.all_find h rfl) Tr.all_l Tr.all_l) (Tr.all_n (Tr.all_find h rfl) Tr.all_l Tr.all_l)) (Tr.all_n (Tr.all_find h rfl) (Tr.all_n (Tr.all_find h rfl) Tr.all_l Tr.all_l) (Tr.all_n (Tr.all_find h rfl) Tr.all_l Tr.all_l))) (Tr.all_n (Tr.all_find h rfl) (Tr.all_n (Tr.all_find h rfl) (Tr.all_n (Tr.all_find h rfl) Tr.all_l Tr.all_l) (Tr.all_n (Tr.all_find h rfl) Tr.all_l Tr.all_l)) (Tr.all_n (Tr.all_find h rfl) (Tr.all_n (Tr.all_find h rfl) Tr.all_l Tr.all_l) (Tr.all_n (Tr.all_find h rfl) Tr.all_l Tr.all_l)))) (Tr.all_n (Tr.all_find h rfl) (Tr.all_n (Tr.all_find h rfl) (Tr.all_n (Tr.all_find h rfl) (Tr.all_n (Tr.all_find h rfl) Tr.all_l Tr.all_l) (Tr.all_n (Tr.all_find h rfl) Tr.all_l Tr.all_l)) (Tr.all_n (Tr.all_find h rfl) (Tr.all_n (Tr.all_find h rfl) Tr.all_l Tr.all_l) (Tr.all_n (Tr.all_find h rfl) Tr.all_l Tr.all_l))) (Tr.all_n (Tr.all_find h rfl) (Tr.all_n (Tr.all_find h rfl) (Tr.all_n (Tr.all_find h rfl) Tr.all_l Tr.all_l) (Tr.all_n (Tr.all_find h rfl) Tr.all_l Tr.all_l)) (Tr.all_n (Tr.all_find h rfl) (Tr.all_n (Tr.all_find h rfl) Tr.all_l Tr.all_l) (Tr.all_n (Tr.all_find h rfl) Tr.all_l Tr.all_l)))))))
def e42_1 : Ent := [([],.bool true)]
def k42 : List (Nat × Ent) := [(1,e42_1)]
theorem k42_ok : chunkOk prog lib t10 k42 = true := by decide +kernel
def l11_1 : Ent := e42_1
def t11 : Tr Ent := (.n 79 l2_79 (.n 46 l2_46 (.n 26 l10_26 (.n 18 l7_18 (.n 14 l1_14 (.n 5 l5_5 (.n 4 l5_4 (.n 1 l11_1 .l .l) .l) (.n 9 l6_9 .l .l)) (.n 16 l7_16 (.n 15 l1_15 .l .l) (.n 17 l7_17 .l .l))) (.n 22 l8_22 (.n 20 l6_20 (.n 19 l8_19 .l .l) (.n 21 l2_21 .l .l)) (.n 24 l10_24 (.n 23 l2_23 .l .l) (.n 25 l8_25 .l .l)))) (.n 35 l4_35 (.n 31 l1_31 (.n 28 l2_28 (.n 27 l9_27 .l .l) (.n 29 l1_29 .l .l)) (.n 33 l1_33 (.n 32 l4_32 .l .l) (.n 34 l2_34 .l .l))) (.n 40 l4_40 (.n 37 l2_37 (.n 36 l3_36 .l .l) (.n 38 l1_38 .l .l)) (.n 44 l1_44 (.n 41 l3_41 .l .l) (.n 45 l6_45 .l .l))))) (.n 63 l6_63 (.n 55 l7_55 (.n 51 l3_51 (.n 49 l4_49 (.n 48 l1_48 (.n 47 l1_47 .l .l) .l) (.n 50 l5_50 .l .l)) (.n 53 l6_53 (.n 52 l3_52 .l .l) (.n 54 l6_54 .l .l))) (.n 59 l1_59 (.n 57 l6_57 (.n 56 l7_56 .l .l) (.n 58 l3_58 .l .l)) (.n 61 l6_61 (.n 60 l7_60 .l .l) (.n 62 l5_62 .l .l)))) (.n 71 l3_71 (.n 67 l9_67 (.n 65 l7_65 (.n 64 l7_64 .l .l) (.n 66 l8_66 .l .l)) (.n 69 l3_69 (.n 68 l1_68 .l .l) (.n 70 l5_70 .l .l))) (.n 75 l5_75 (.n 73 l4_73 (.n 72 l5_72 .l .l) (.n 74 l4_74 .l .l)) (.n 77 l8_77 (.n 76 l9_76 .l .l) (.n 78 l5_78 .l .l)))))) (.n 114 l3_114 (.n 97 l2_97 (.n 88 l6_88 (.n 84 l6_84 (.n 82 l9_82 (.n 81 l1_81 (.n 80 l1_80 .l .l) .l) (.n 83 l8_83 .l .l)) (.n 86 l5_86 (.n 85 l3_85 .l .l) (.n 87 l7_87 .l .l))) (.n 92 l6_92 (.n 90 l6_90 (.n 89 l6_89 .l .l) (.n 91 l5_91 .l .l)) (.n 95 l3_95 (.n 94 l1_94 .l .l) (.n 96 l1_96 .l .l)))) (.n 105 l2_105 (.n 101 l3_101 (.n 99 l1_99 (.n 98 l1_98 .l .l) (.n 100 l2_100 .l .l)) (.n 103 l6_103 (.n 102 l2_102 .l .l) (.n 104 l6_104 .l .l))) (.n 110 l4_110 (.n 107 l5_107 (.n 106 l5_106 .l .l) (.n 108 l2_108 .l .l)) (.n 112 l5_112 (.n 111 l2_111 .l .l) (.n 113 l6_113 .l .l))))) (.n 132 l2_132 (.n 123 l3_123 (.n 119 l1_119 (.n 117 l1_117 (.n 116 l8_116 (.n 115 l7_115 .l .l) .l) (.n 118 l1_118 .l .l)) (.n 121 l4_121 (.n 120 l8_120 .l .l) (.n 122 l7_122 .l .l))) (.n 127 l5_127 (.n 125 l1_125 (.n 124 l1_124 .l .l) (.n 126 l4_126 .l .l)) (.n 130 l2_130 (.n 129 l1_129 .l .l) (.n 131 l4_131 .l .l)))) (.n 150 l1_150 (.n 146 l1_146 (.n 136 l2_136 (.n 134 l1_134 .l .l) (.n 142 l1_142 .l .l)) (.n 148 l2_148 (.n 147 l1_147 .l .l) (.n 149 l2_149 .l .l))) (.n 161 l3_161 (.n 155 l3_155 (.n 151 l4_151 .l .l) (.n 160 l6_160 .l .l)) (.n 164 l1_164 (.n 163 l1_163 .l .l) (.n 172 l3_172 .l .l)))))))
theorem t11_ok {Λ : Link} (hΛ : LinkOk Λ) (hp : Λ.prog = prog) (hl : Λ.lib = lib) : t11.All (AllC Λ) := by
  have h := t10_ok hΛ hp hl
  have c42 := chunk_at hΛ hp hl h k42_ok
  exact (Tr.all_n (Tr.all_find h rfl) (Tr.all_n (Tr.all_find h rfl) (Tr.all_n (Tr.all_find h rfl) (Tr.all_n (Tr.all_find h rfl) (Tr.all_n (Tr.all_find h rfl) (Tr.all_n (Tr.all_find h rfl) (Tr.all_n (Tr.all_find h rfl) (Tr.all_n (c42 _ _ (.head _)) Tr.all_l Tr.all_l) Tr.all_l) (Tr.all_n (Tr.all_find h rfl) Tr.all_l Tr.all_l)) (Tr.all_n (Tr.all_find h rfl) (Tr.all_n (Tr.all_find h rfl) Tr.all_l Tr.all_l) (Tr.all_n (Tr.all_find h rfl) Tr.all_l Tr.all_l))) (Tr.all_n (Tr.all_find h rfl) (Tr.all_n (Tr.all_find h rfl) (Tr.all_n (Tr.all_find h rfl) Tr.all_l Tr.all_l) (Tr.all_n (Tr.all_find h rfl) Tr.all_l Tr.all_l)) (Tr.all_n (Tr.all_find h rfl) (Tr.all_n (Tr.all_find h rfl) Tr.all_l Tr.all_l) (Tr.all_n (Tr.all_find h rfl) Tr.all_l Tr.all_l)))) (Tr.all_n (Tr.all_find h rfl) (Tr.all_n (Tr.all_find h rfl) (Tr.all_n (Tr.all_find h rfl) (Tr.all_n (Tr.all_find h rfl) Tr.all_l Tr.all_l) (Tr.all_n (Tr.all_find h rfl) Tr.all_l Tr.all_l)) (Tr.all_n (Tr.all_find h rfl) (Tr.all_n (Tr.all_find h rfl) Tr.all_l Tr.all_l) (Tr.all_n (Tr.all_find h rfl) Tr.all_l Tr.all_l))) (Tr.all_n (Tr.all_find h rfl) (Tr.all_n (Tr.all_find h rfl) (Tr.all_n (Tr.all_find h rfl) Tr.all_l Tr.all_l) (Tr.all_n (Tr.all_find h rfl) Tr.all_l Tr.all_l)) (Tr.all_n (Tr.all_find h rfl) (Tr.all_n (Tr.all_find h rfl) Tr.all_l Tr.all_l) (Tr.all_n (Tr.all_find h rfl) Tr.all_l Tr.all_l))))) (Tr.all_n (Tr.all_find h rfl) (Tr.all_n (Tr.all_find h rfl) (Tr.all_n (Tr.all_find h rfl) (Tr.all_n (Tr.all_find h rfl) (Tr.all_n (Tr.all_find h rfl) (Tr.all_n (Tr.all_find h rfl) Tr.all_l Tr.all_l) Tr.all_l) (Tr.all_n (Tr.all_find h rfl) Tr.all_l Tr.all_l)) (Tr.all_n (Tr.all_find h rfl) (Tr.all_n (Tr.all_find h rfl) Tr.all_l Tr.all_l) (Tr.all_n (Tr.all_find h rfl) Tr.all_l Tr.all_l))) (Tr.all_n (Tr.all_find h rfl) (Tr.all_n (Tr.all_find h rfl) (Tr.all_n (Tr.all_find h rfl) Tr.all_l Tr.all_l) (Tr.all_n (Tr.all_find h rfl) Tr.all_l Tr.all_l)) (Tr.all_n (Tr.all_find h rfl) (Tr.all_n (Tr.all_find h rfl) Tr.all_l Tr.all_l) (Tr.all_n (Tr.all_find h rfl) Tr.all_l Tr.all_l)))) (Tr.all_n (Tr.all_find h rfl) (Tr.all_n (Tr.all_find h rfl) (Tr.all_n (Tr.all_find h rfl) (Tr.all_n (Tr.all_find h rfl) Tr.all_l Tr.all_l) (Tr.all_n (Tr.all_find h rfl) Tr.all_l Tr.all_l)) (Tr.all_n (Tr.all_find h rfl) (Tr.all_n (Tr.all_find h rfl) Tr.all_l Tr.all_l) (Tr.all_n (Tr.all_find h rfl) Tr.all_l Tr.all_l))) (Tr.all_n (Tr.all_find h rfl) (Tr.all_n (Tr.all_find h rfl) (Tr.all_n (Tr.all_find h rfl) Tr.all_l Tr.all_l) (Tr.all_n (Tr.all_find h rfl) Tr.all_l Tr.all_l)) (Tr.all_n (Tr.all_find h rfl) (Tr.all_n (Tr.all_find h rfl) Tr.all_l Tr.all_l) (Tr.all_n (Tr.all_find h rfl) Tr.all_l Tr.all_l)))))) (Tr.all_n (Tr.all_find h rfl) (Tr.all_n (Tr.all_find h rfl) (Tr.all_n (Tr.all_find h rfl) (Tr.all_n (Tr.all_find h rfl) (Tr.all_n (Tr.all_find h rfl) (Tr.all_n (Tr.all_find h rfl) (Tr.all_n (Tr.all_find h rfl) Tr.all_l Tr.all_l) Tr.all_l) (Tr.all_n (Tr.all_find h rfl) Tr.all_l Tr.all_l)) (Tr.all_n (Tr.all_find h rfl) (Tr.all_n (Tr.all_find h rfl) Tr.all_l Tr.all_l) (Tr.all_n (Tr.all_find h rfl) Tr.all_l Tr.all_l))) (Tr.all_n (Tr.all_find h rfl) (Tr.all_n (Tr.all_find h rfl) (Tr.all_n (Tr.all_find h rfl) Tr.all_l Tr.all_l) (Tr.all_n (Tr.all_find h rfl) Tr.all_l Tr.all_l)) (Tr.all_n (Tr.all_find h rfl) (Tr.all_n (Tr.all_find h rfl) Tr.all_l Tr.all_l) (Tr.all_n (Tr.all_find h rfl) Tr.all_l Tr.all_l)))) (Tr.all_n (Tr.all_find h rfl) (Tr.all_n (Tr.all_find h rfl) (Tr.all_n (Tr.all_find h rfl) (Tr.all_n (Tr.all_find h rfl) Tr.all_l Tr.all_l) (Tr.all_n (Tr.all_find h rfl) Tr.all_l Tr.all_l)) (Tr.all_n (Tr.all_find h rfl) (Tr.all_n (Tr.all_find h rfl) Tr.all_l Tr.all_l) (Tr.all_n (Tr.all_find h rfl) Tr.all_l Tr.all_l))) (Tr.all_n (Tr.all_find h rfl) (Tr.all_n (Tr.all_find h rfl) (Tr.all_n (Tr.all_find h rfl) Tr.all_l Tr.all_l) (Tr.all_n (Tr.all_find h rfl) Tr.all_l Tr.all_l)) (Tr.all_n (Tr.all_find h rfl) (Tr.all_n (Tr.all_find h rfl) Tr.all_l Tr.all_l) (Tr.all_n (Tr.all_find h rfl) Tr.all_l Tr.all_l))))) (Tr.all_n (Tr.all_find h rfl) (Tr.all_n (Tr.all_find h rfl) (Tr.all_n (Tr.all_find h rfl) (Tr.all_n (Tr.all_find h rfl) (Tr.all_n (Tr.all_find h rfl) (Tr.all_n (Tr.all_find h rfl) Tr.all_l Tr.all_l) Tr.all_l) (Tr.all_n (Tr.all_find h rfl) Tr.all_l Tr.all_l)) (Tr.all_n (Tr.all_find h rfl) (Tr.all_n (Tr.all_find h rfl) Tr.all_l Tr.all_l) (Tr.all_n (Tr.all_find h rfl) Tr.all_l Tr.all_l))) (Tr.all_n (Tr.all_find h rfl) (Tr.all_n (Tr.all_find h rfl) (Tr.all_n (Tr.all_find h rfl) Tr.all_l Tr.all_l) (Tr.all_n (Tr.all_find h rfl) Tr.all_l Tr.all_l)) (Tr.all_n (Tr.all_find h rfl) (Tr.all_n (Tr.all_find h rfl) Tr.all_l Tr.all_l) (Tr.all_n (Tr.all_find h rfl) Tr.all_l Tr.all_l)))) (Tr.all_n (Tr.all_find h rfl) (Tr.all_n (Tr.all_find h rfl) (Tr.all_n (Tr.all_find h rfl) (Tr.all_n (Tr.all_find h rfl) Tr.all_l Tr.all_l) (Tr.all_n (Tr.all_find h rfl) Tr.all_l Tr.all_l)) (Tr.all_n (Tr.all_find h rfl) (Tr.all_n (Tr.all_find h rfl) Tr.all_l Tr.all_l) (Tr.all_n (Tr.all_find h rfl) Tr.all_l Tr.all_l))) (Tr.all_n (Tr.all_find h rfl) (Tr.all_n (Tr.all_find h rfl) (Tr.all_n (Tr.all_find h rfl) Tr.all_l Tr.all_l) (Tr.all_n (Tr.all_find h rfl) Tr.all_l Tr.all_l)) (Tr.all_n (Tr.all_find h rfl) (Tr.all_n (Tr.all_find h rfl) Tr.all_l Tr.all_l) (Tr.all_n (Tr.all_find h rfl) Tr.all_l Tr.all_l)))))))
theorem holds {Λ : Link} (hΛ : LinkOk Λ) (hp : Λ.prog = prog) (hl : Λ.lib = lib) : PureC Λ 1 [] (.bool true) := Tr.all_find (t11_ok hΛ hp hl) (i := 1) rfl _ _ (.head _)
end VK1
end VE
