import Derived.Test.YtkhmakhdoedjiaaGreatDoorTaw
set_option linter.all false
set_option maxRecDepth 100000
namespace VE
namespace VK1
theorem zPg:zj prog lib T0 k3=true:=by decide+kernel
theorem zPd:zj prog lib T0 k7=true:=by decide+kernel
theorem zHZ:zj prog lib T0 k11=true:=by decide+kernel
theorem zFw:zj prog lib T0 k15=true:=by decide+kernel
theorem zH5:zj prog lib T0 k19=true:=by decide+kernel
theorem zMb:zj prog lib T0 k24=true:=by decide+kernel
theorem zIr:zj prog lib T0 k28=true:=by decide+kernel
theorem zHn:zj prog lib T0 k32=true:=by decide+kernel
theorem zDR:zj prog lib T0 k36=true:=by decide+kernel
theorem zHp:zj prog lib T0 k40=true:=by decide+kernel
theorem zHi:zj prog lib T0 k44=true:=by decide+kernel
theorem zGd:zj prog lib T1 k47=true:=by decide+kernel
theorem zFx:zj prog lib T1 k51=true:=by decide+kernel
theorem zLB:zj prog lib T1 k55=true:=by decide+kernel
theorem zGB:zj prog lib T1 k59=true:=by decide+kernel
theorem zHG:zj prog lib T1 k63=true:=by decide+kernel
theorem zLF:zj prog lib T1 k67=true:=by decide+kernel
theorem zJW:zj prog lib T2 k71=true:=by decide+kernel
theorem zIw:zj prog lib T2 k75=true:=by decide+kernel
theorem zEX:zj prog lib T3 k79=true:=by decide+kernel
theorem zHI:zj prog lib T4 k83=true:=by decide+kernel
theorem zL5:zj prog lib T5 k87=true:=by decide+kernel
end VK1
end VE
