import Derived.Test.YtmjadjhlhjldjaaGreatDoorAwakeD
set_option linter.all false
set_option maxRecDepth 100000
namespace VE
namespace VK1
theorem k1_ok : chunkOk prog lib t0 k1 = true := by decide +kernel
theorem k3_ok : chunkOk prog lib t0 k3 = true := by decide +kernel
theorem k5_ok : chunkOk prog lib t0 k5 = true := by decide +kernel
theorem k14_ok : chunkOk prog lib t0 k14 = true := by decide +kernel
theorem k17_ok : chunkOk prog lib t0 k17 = true := by decide +kernel
theorem k21_ok : chunkOk prog lib t0 k21 = true := by decide +kernel
theorem k25_ok : chunkOk prog lib t0 k25 = true := by decide +kernel
theorem k30_ok : chunkOk prog lib t1 k30 = true := by decide +kernel
theorem k31_ok : chunkOk prog lib t1 k31 = true := by decide +kernel
theorem k35_ok : chunkOk prog lib t1 k35 = true := by decide +kernel
theorem k39_ok : chunkOk prog lib t1 k39 = true := by decide +kernel
theorem k43_ok : chunkOk prog lib t1 k43 = true := by decide +kernel
theorem k47_ok : chunkOk prog lib t1 k47 = true := by decide +kernel
theorem k51_ok : chunkOk prog lib t1 k51 = true := by decide +kernel
theorem k55_ok : chunkOk prog lib t2 k55 = true := by decide +kernel
theorem k57_ok : chunkOk prog lib t2 k57 = true := by decide +kernel
theorem k63_ok : chunkOk prog lib t3 k63 = true := by decide +kernel
theorem k67_ok : chunkOk prog lib t6 k67 = true := by decide +kernel
theorem k71_ok : chunkOk prog lib t10 k71 = true := by decide +kernel
end VK1
end VE
