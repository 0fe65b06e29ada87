import Derived.Test.YtkhmakhdoedjiaaGreatDoorTaw
set_option linter.all false
set_option maxRecDepth 100000
namespace VE
namespace VK1
theorem zNs:zj prog lib T0 k2=true:=by decide+kernel
theorem zNA:zj prog lib T0 k6=true:=by decide+kernel
theorem zLJ:zj prog lib T0 k10=true:=by decide+kernel
theorem zF8:zj prog lib T0 k14=true:=by decide+kernel
theorem zLQ:zj prog lib T0 k18=true:=by decide+kernel
theorem zK1:zj prog lib T0 k23=true:=by decide+kernel
theorem zHa:zj prog lib T0 k27=true:=by decide+kernel
theorem zJt:zj prog lib T0 k31=true:=by decide+kernel
theorem zIu:zj prog lib T0 k35=true:=by decide+kernel
theorem zJy:zj prog lib T0 k39=true:=by decide+kernel
theorem zIV:zj prog lib T0 k43=true:=by decide+kernel
theorem zEw:zj prog lib T0 k46=true:=by decide+kernel
theorem zHs:zj prog lib T1 k50=true:=by decide+kernel
theorem zGl:zj prog lib T1 k54=true:=by decide+kernel
theorem zIE:zj prog lib T1 k58=true:=by decide+kernel
theorem zLE:zj prog lib T1 k62=true:=by decide+kernel
theorem zLO:zj prog lib T1 k66=true:=by decide+kernel
theorem zGw:zj prog lib T2 k70=true:=by decide+kernel
theorem zDN:zj prog lib T2 k74=true:=by decide+kernel
theorem zJO:zj prog lib T3 k78=true:=by decide+kernel
theorem zL7:zj prog lib T4 k82=true:=by decide+kernel
theorem zGP:zj prog lib T5 k86=true:=by decide+kernel
theorem zEZ:zj prog lib T8 k90=true:=by decide+kernel
end VK1
end VE
