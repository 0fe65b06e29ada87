import Derived.Test.YtmacbdacedfedaaGreatDoorTag
set_option linter.all false
set_option maxRecDepth 100000
namespace VE
namespace lj
def ar2:b9 prog aI T1 k14=true:=by decide+kernel
def ar3:b9 prog aI T1 k20=true:=by decide+kernel
def ar4:b9 prog aI T2 k26=true:=by decide+kernel
def ar5:b9 prog aI T2 k28=true:=by decide+kernel
def ar6:b9 prog aI T2 k41=true:=by decide+kernel
def ar7:b9 prog aI T3 k33=true:=by decide+kernel
end lj
end VE
