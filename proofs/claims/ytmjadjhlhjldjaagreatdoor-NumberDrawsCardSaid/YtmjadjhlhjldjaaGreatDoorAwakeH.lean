import Derived.Test.YtmjadjhlhjldjaaGreatDoorAwakeD
set_option linter.all false
set_option maxRecDepth 100000
namespace VE
namespace VK1
theorem k0_ok : chunkOk prog lib t0 k0 = true := by decide +kernel
theorem k2_ok : chunkOk prog lib t0 k2 = true := by decide +kernel
theorem k4_ok : chunkOk prog lib t0 k4 = true := by decide +kernel
theorem k10_ok : chunkOk prog lib t0 k10 = true := by decide +kernel
theorem k13_ok : chunkOk prog lib t0 k13 = true := by decide +kernel
theorem k16_ok : chunkOk prog lib t0 k16 = true := by decide +kernel
theorem k20_ok : chunkOk prog lib t0 k20 = true := by decide +kernel
theorem k24_ok : chunkOk prog lib t0 k24 = true := by decide +kernel
theorem k29_ok : chunkOk prog lib t1 k29 = true := by decide +kernel
theorem k34_ok : chunkOk prog lib t1 k34 = true := by decide +kernel
theorem k38_ok : chunkOk prog lib t1 k38 = true := by decide +kernel
theorem k42_ok : chunkOk prog lib t1 k42 = true := by decide +kernel
theorem k46_ok : chunkOk prog lib t1 k46 = true := by decide +kernel
theorem k50_ok : chunkOk prog lib t1 k50 = true := by decide +kernel
theorem k54_ok : chunkOk prog lib t2 k54 = true := by decide +kernel
theorem k56_ok : chunkOk prog lib t2 k56 = true := by decide +kernel
theorem k62_ok : chunkOk prog lib t3 k62 = true := by decide +kernel
theorem k66_ok : chunkOk prog lib t5 k66 = true := by decide +kernel
theorem k70_ok : chunkOk prog lib t9 k70 = true := by decide +kernel
end VK1
end VE
