import Derived.Test.YtmacbdacedfedaaGreatDoorTag
set_option linter.all false
set_option maxRecDepth 100000
namespace VE
namespace lj
def asy:b9 prog aI T0 k11=true:=by decide+kernel
def asA:b9 prog aI T1 k17=true:=by decide+kernel
def asB:b9 prog aI T1 k23=true:=by decide+kernel
def asC:b9 prog aI T2 k42=true:=by decide+kernel
def asD:b9 prog aI T3 k30=true:=by decide+kernel
def asE:b9 prog aI T4 k36=true:=by decide+kernel
def asF:b9 prog aI T5 k44=true:=by decide+kernel
def asG:b9 prog aI T5 k49=true:=by decide+kernel
end lj
end VE
