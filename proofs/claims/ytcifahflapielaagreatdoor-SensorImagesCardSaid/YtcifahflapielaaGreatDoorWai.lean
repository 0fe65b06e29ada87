import Derived.Test.YtcifahflapielaaGreatDoorWag
set_option linter.all false
set_option maxRecDepth 100000
namespace VE
namespace lW
def asT:cD prog aI T1 k14=true:=by decide+kernel
def asU:cD prog aI T1 k20=true:=by decide+kernel
def asV:cD prog aI T2 k26=true:=by decide+kernel
def asW:cD prog aI T2 k28=true:=by decide+kernel
def asX:cD prog aI T2 k41=true:=by decide+kernel
def asY:cD prog aI T3 k33=true:=by decide+kernel
end lW
end VE
