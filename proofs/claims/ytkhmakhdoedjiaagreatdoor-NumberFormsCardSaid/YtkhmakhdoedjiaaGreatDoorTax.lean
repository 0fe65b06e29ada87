import Derived.Test.YtkhmakhdoedjiaaGreatDoorTaw
set_option linter.all false
set_option maxRecDepth 100000
namespace VE
namespace VK1
theorem zPc:zj prog lib T0 k0=true:=by decide+kernel
theorem zNW:zj prog lib T0 k4=true:=by decide+kernel
theorem zN4:zj prog lib T0 k8=true:=by decide+kernel
theorem zIW:zj prog lib T0 k12=true:=by decide+kernel
theorem zLR:zj prog lib T0 k16=true:=by decide+kernel
theorem zMc:zj prog lib T0 k20=true:=by decide+kernel
theorem zLT:zj prog lib T0 k21=true:=by decide+kernel
theorem zI3:zj prog lib T0 k25=true:=by decide+kernel
theorem zFK:zj prog lib T0 k29=true:=by decide+kernel
theorem zGc:zj prog lib T0 k33=true:=by decide+kernel
theorem zGO:zj prog lib T0 k37=true:=by decide+kernel
theorem zHQ:zj prog lib T0 k41=true:=by decide+kernel
theorem zIt:zj prog lib T1 k48=true:=by decide+kernel
theorem zGv:zj prog lib T1 k52=true:=by decide+kernel
theorem zKI:zj prog lib T1 k56=true:=by decide+kernel
theorem zIk:zj prog lib T1 k60=true:=by decide+kernel
theorem zFF:zj prog lib T1 k64=true:=by decide+kernel
theorem zK5:zj prog lib T2 k68=true:=by decide+kernel
theorem zH0:zj prog lib T2 k72=true:=by decide+kernel
theorem zLq:zj prog lib T3 k76=true:=by decide+kernel
theorem zE2:zj prog lib T3 k80=true:=by decide+kernel
theorem zEf:zj prog lib T4 k84=true:=by decide+kernel
theorem zJ5:zj prog lib T6 k88=true:=by decide+kernel
end VK1
end VE
