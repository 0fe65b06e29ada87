import Derived.Test.YtknmjihnfgolpaaGreatDoorTax
set_option linter.all false
set_option maxRecDepth 100000
namespace VE
namespace VK1
theorem zPz:zk prog lib T0 k3=true:=by decide+kernel
theorem zPw:zk prog lib T0 k7=true:=by decide+kernel
theorem zJC:zk prog lib T0 k11=true:=by decide+kernel
theorem zEA:zk prog lib T0 k15=true:=by decide+kernel
theorem zFb:zk prog lib T0 k19=true:=by decide+kernel
theorem zHL:zk prog lib T0 k24=true:=by decide+kernel
theorem zLi:zk prog lib T0 k28=true:=by decide+kernel
theorem zHI:zk prog lib T0 k32=true:=by decide+kernel
theorem zL1:zk prog lib T0 k36=true:=by decide+kernel
theorem zG7:zk prog lib T0 k40=true:=by decide+kernel
theorem zMW:zk prog lib T0 k44=true:=by decide+kernel
theorem zMe:zk prog lib T1 k47=true:=by decide+kernel
theorem zI9:zk prog lib T1 k51=true:=by decide+kernel
theorem zLE:zk prog lib T1 k55=true:=by decide+kernel
theorem zKl:zk prog lib T1 k59=true:=by decide+kernel
theorem zFi:zk prog lib T1 k63=true:=by decide+kernel
theorem zEL:zk prog lib T1 k67=true:=by decide+kernel
theorem zJi:zk prog lib T2 k71=true:=by decide+kernel
theorem zG6:zk prog lib T2 k75=true:=by decide+kernel
theorem zIZ:zk prog lib T3 k79=true:=by decide+kernel
theorem zKL:zk prog lib T4 k83=true:=by decide+kernel
theorem zKv:zk prog lib T5 k87=true:=by decide+kernel
end VK1
end VE
