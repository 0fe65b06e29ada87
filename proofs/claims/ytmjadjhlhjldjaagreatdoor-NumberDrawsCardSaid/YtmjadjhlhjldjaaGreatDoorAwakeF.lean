import Derived.Test.YtmjadjhlhjldjaaGreatDoorAwakeD
set_option linter.all false
set_option maxRecDepth 100000
namespace VE
namespace VK1
theorem k6_ok : chunkOk prog lib t0 k6 = true := by decide +kernel
theorem k8_ok : chunkOk prog lib t0 k8 = true := by decide +kernel
theorem k11_ok : chunkOk prog lib t0 k11 = true := by decide +kernel
theorem k15_ok : chunkOk prog lib t0 k15 = true := by decide +kernel
theorem k18_ok : chunkOk prog lib t0 k18 = true := by decide +kernel
theorem k22_ok : chunkOk prog lib t0 k22 = true := by decide +kernel
theorem k26_ok : chunkOk prog lib t0 k26 = true := by decide +kernel
theorem k32_ok : chunkOk prog lib t1 k32 = true := by decide +kernel
theorem k36_ok : chunkOk prog lib t1 k36 = true := by decide +kernel
theorem k40_ok : chunkOk prog lib t1 k40 = true := by decide +kernel
theorem k44_ok : chunkOk prog lib t1 k44 = true := by decide +kernel
theorem k48_ok : chunkOk prog lib t1 k48 = true := by decide +kernel
theorem k52_ok : chunkOk prog lib t1 k52 = true := by decide +kernel
theorem k58_ok : chunkOk prog lib t2 k58 = true := by decide +kernel
theorem k60_ok : chunkOk prog lib t2 k60 = true := by decide +kernel
theorem k64_ok : chunkOk prog lib t4 k64 = true := by decide +kernel
theorem k68_ok : chunkOk prog lib t7 k68 = true := by decide +kernel
end VK1
end VE
