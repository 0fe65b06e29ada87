import Derived.Test.YtebpicijmcnecaaGreatDoorUag
set_option linter.all false
set_option maxRecDepth 100000
namespace VE
namespace kE
def apv:bW prog aG T1 k14=true:=by decide+kernel
def apw:bW prog aG T1 k20=true:=by decide+kernel
def apx:bW prog aG T2 k26=true:=by decide+kernel
def apy:bW prog aG T2 k28=true:=by decide+kernel
def apz:bW prog aG T2 k41=true:=by decide+kernel
def apA:bW prog aG T3 k33=true:=by decide+kernel
end kE
end VE
