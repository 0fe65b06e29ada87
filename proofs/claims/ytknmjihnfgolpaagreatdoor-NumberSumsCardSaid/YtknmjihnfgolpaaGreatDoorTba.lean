import Derived.Test.YtknmjihnfgolpaaGreatDoorTax
set_option linter.all false
set_option maxRecDepth 100000
namespace VE
namespace VK1
theorem zNw:zk prog lib T0 k2=true:=by decide+kernel
theorem zNy:zk prog lib T0 k6=true:=by decide+kernel
theorem zEo:zk prog lib T0 k10=true:=by decide+kernel
theorem zLt:zk prog lib T0 k14=true:=by decide+kernel
theorem zMN:zk prog lib T0 k18=true:=by decide+kernel
theorem zID:zk prog lib T0 k23=true:=by decide+kernel
theorem zLI:zk prog lib T0 k27=true:=by decide+kernel
theorem zKx:zk prog lib T0 k31=true:=by decide+kernel
theorem zKm:zk prog lib T0 k35=true:=by decide+kernel
theorem zH8:zk prog lib T0 k39=true:=by decide+kernel
theorem zJV:zk prog lib T0 k43=true:=by decide+kernel
theorem zJu:zk prog lib T0 k46=true:=by decide+kernel
theorem zGB:zk prog lib T1 k50=true:=by decide+kernel
theorem zG9:zk prog lib T1 k54=true:=by decide+kernel
theorem zFe:zk prog lib T1 k58=true:=by decide+kernel
theorem zK1:zk prog lib T1 k62=true:=by decide+kernel
theorem zF4:zk prog lib T1 k66=true:=by decide+kernel
theorem zFW:zk prog lib T2 k70=true:=by decide+kernel
theorem zK7:zk prog lib T2 k74=true:=by decide+kernel
theorem zLn:zk prog lib T3 k78=true:=by decide+kernel
theorem zI5:zk prog lib T4 k82=true:=by decide+kernel
theorem zHP:zk prog lib T5 k86=true:=by decide+kernel
theorem zLD:zk prog lib T8 k90=true:=by decide+kernel
end VK1
end VE
