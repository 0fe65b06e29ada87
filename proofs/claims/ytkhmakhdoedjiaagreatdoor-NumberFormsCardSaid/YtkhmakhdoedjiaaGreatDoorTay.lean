import Derived.Test.YtkhmakhdoedjiaaGreatDoorTaw
set_option linter.all false
set_option maxRecDepth 100000
namespace VE
namespace VK1
theorem zNw:zj prog lib T0 k1=true:=by decide+kernel
theorem zNh:zj prog lib T0 k5=true:=by decide+kernel
theorem zOz:zj prog lib T0 k9=true:=by decide+kernel
theorem zE8:zj prog lib T0 k13=true:=by decide+kernel
theorem zFn:zj prog lib T0 k17=true:=by decide+kernel
theorem zHK:zj prog lib T0 k22=true:=by decide+kernel
theorem zK6:zj prog lib T0 k26=true:=by decide+kernel
theorem zIZ:zj prog lib T0 k30=true:=by decide+kernel
theorem zI1:zj prog lib T0 k34=true:=by decide+kernel
theorem zEK:zj prog lib T0 k38=true:=by decide+kernel
theorem zJk:zj prog lib T0 k42=true:=by decide+kernel
theorem zIm:zj prog lib T0 k45=true:=by decide+kernel
theorem zKy:zj prog lib T1 k49=true:=by decide+kernel
theorem zLC:zj prog lib T1 k53=true:=by decide+kernel
theorem zF6:zj prog lib T1 k57=true:=by decide+kernel
theorem zIN:zj prog lib T1 k61=true:=by decide+kernel
theorem zHH:zj prog lib T1 k65=true:=by decide+kernel
theorem zKC:zj prog lib T2 k69=true:=by decide+kernel
theorem zJM:zj prog lib T2 k73=true:=by decide+kernel
theorem zIY:zj prog lib T3 k77=true:=by decide+kernel
theorem zLj:zj prog lib T3 k81=true:=by decide+kernel
theorem zKD:zj prog lib T4 k85=true:=by decide+kernel
theorem zI5:zj prog lib T7 k89=true:=by decide+kernel
end VK1
end VE
