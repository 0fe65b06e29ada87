import Derived.Test.YtknmjihnfgolpaaGreatDoorTax
set_option linter.all false
set_option maxRecDepth 100000
namespace VE
namespace VK1
theorem zNN:zk prog lib T0 k0=true:=by decide+kernel
theorem zOK:zk prog lib T0 k4=true:=by decide+kernel
theorem zNc:zk prog lib T0 k8=true:=by decide+kernel
theorem zGQ:zk prog lib T0 k12=true:=by decide+kernel
theorem zIf:zk prog lib T0 k16=true:=by decide+kernel
theorem zLb:zk prog lib T0 k20=true:=by decide+kernel
theorem zJ6:zk prog lib T0 k21=true:=by decide+kernel
theorem zJz:zk prog lib T0 k25=true:=by decide+kernel
theorem zGD:zk prog lib T0 k29=true:=by decide+kernel
theorem zIU:zk prog lib T0 k33=true:=by decide+kernel
theorem zEy:zk prog lib T0 k37=true:=by decide+kernel
theorem zL7:zk prog lib T0 k41=true:=by decide+kernel
theorem zFu:zk prog lib T1 k48=true:=by decide+kernel
theorem zLR:zk prog lib T1 k52=true:=by decide+kernel
theorem zER:zk prog lib T1 k56=true:=by decide+kernel
theorem zIE:zk prog lib T1 k60=true:=by decide+kernel
theorem zGt:zk prog lib T1 k64=true:=by decide+kernel
theorem zKH:zk prog lib T2 k68=true:=by decide+kernel
theorem zGx:zk prog lib T2 k72=true:=by decide+kernel
theorem zFm:zk prog lib T3 k76=true:=by decide+kernel
theorem zG8:zk prog lib T3 k80=true:=by decide+kernel
theorem zHk:zk prog lib T4 k84=true:=by decide+kernel
theorem zF3:zk prog lib T6 k88=true:=by decide+kernel
end VK1
end VE
