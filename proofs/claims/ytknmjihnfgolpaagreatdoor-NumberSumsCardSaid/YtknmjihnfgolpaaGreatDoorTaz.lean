import Derived.Test.YtknmjihnfgolpaaGreatDoorTax
set_option linter.all false
set_option maxRecDepth 100000
namespace VE
namespace VK1
theorem zPE:zk prog lib T0 k1=true:=by decide+kernel
theorem zNm:zk prog lib T0 k5=true:=by decide+kernel
theorem zNW:zk prog lib T0 k9=true:=by decide+kernel
theorem zEQ:zk prog lib T0 k13=true:=by decide+kernel
theorem zHo:zk prog lib T0 k17=true:=by decide+kernel
theorem zGw:zk prog lib T0 k22=true:=by decide+kernel
theorem zKY:zk prog lib T0 k26=true:=by decide+kernel
theorem zK6:zk prog lib T0 k30=true:=by decide+kernel
theorem zFI:zk prog lib T0 k34=true:=by decide+kernel
theorem zJX:zk prog lib T0 k38=true:=by decide+kernel
theorem zGY:zk prog lib T0 k42=true:=by decide+kernel
theorem zMC:zk prog lib T0 k45=true:=by decide+kernel
theorem zLv:zk prog lib T1 k49=true:=by decide+kernel
theorem zFR:zk prog lib T1 k53=true:=by decide+kernel
theorem zHO:zk prog lib T1 k57=true:=by decide+kernel
theorem zMa:zk prog lib T1 k61=true:=by decide+kernel
theorem zIu:zk prog lib T1 k65=true:=by decide+kernel
theorem zHS:zk prog lib T2 k69=true:=by decide+kernel
theorem zHn:zk prog lib T2 k73=true:=by decide+kernel
theorem zLe:zk prog lib T3 k77=true:=by decide+kernel
theorem zJc:zk prog lib T3 k81=true:=by decide+kernel
theorem zLH:zk prog lib T4 k85=true:=by decide+kernel
theorem zFH:zk prog lib T7 k89=true:=by decide+kernel
end VK1
end VE
