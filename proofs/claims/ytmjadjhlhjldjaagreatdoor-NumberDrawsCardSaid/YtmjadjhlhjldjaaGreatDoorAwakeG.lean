import Derived.Test.YtmjadjhlhjldjaaGreatDoorAwakeD
set_option linter.all false
set_option maxRecDepth 100000
namespace VE
namespace VK1
theorem k7_ok : chunkOk prog lib t0 k7 = true := by decide +kernel
theorem k9_ok : chunkOk prog lib t0 k9 = true := by decide +kernel
theorem k12_ok : chunkOk prog lib t0 k12 = true := by decide +kernel
theorem k19_ok : chunkOk prog lib t0 k19 = true := by decide +kernel
theorem k23_ok : chunkOk prog lib t0 k23 = true := by decide +kernel
theorem k27_ok : chunkOk prog lib t0 k27 = true := by decide +kernel
theorem k28_ok : chunkOk prog lib t0 k28 = true := by decide +kernel
theorem k33_ok : chunkOk prog lib t1 k33 = true := by decide +kernel
theorem k37_ok : chunkOk prog lib t1 k37 = true := by decide +kernel
theorem k41_ok : chunkOk prog lib t1 k41 = true := by decide +kernel
theorem k45_ok : chunkOk prog lib t1 k45 = true := by decide +kernel
theorem k49_ok : chunkOk prog lib t1 k49 = true := by decide +kernel
theorem k53_ok : chunkOk prog lib t1 k53 = true := by decide +kernel
theorem k59_ok : chunkOk prog lib t2 k59 = true := by decide +kernel
theorem k61_ok : chunkOk prog lib t3 k61 = true := by decide +kernel
theorem k65_ok : chunkOk prog lib t4 k65 = true := by decide +kernel
theorem k69_ok : chunkOk prog lib t8 k69 = true := by decide +kernel
end VK1
end VE
