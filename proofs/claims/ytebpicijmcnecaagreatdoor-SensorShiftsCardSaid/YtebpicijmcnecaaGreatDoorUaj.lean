import Derived.Test.YtebpicijmcnecaaGreatDoorUag
set_option linter.all false
set_option maxRecDepth 100000
namespace VE
namespace kE
def apB:bW prog aG T0 k13=true:=by decide+kernel
def apC:bW prog aG T1 k19=true:=by decide+kernel
def apD:bW prog aG T2 k25=true:=by decide+kernel
def apE:bW prog aG T2 k39=true:=by decide+kernel
def apF:bW prog aG T3 k32=true:=by decide+kernel
def apG:bW prog aG T5 k50=true:=by decide+kernel
def apH:bW prog aG T5 k52=true:=by decide+kernel
end kE
end VE
