import Derived.Test.YtmacbdacedfedaaGreatDoorTag
set_option linter.all false
set_option maxRecDepth 100000
namespace VE
namespace lj
def ar1:b9 prog aI T5 k37=true:=by decide+kernel
end lj
end VE
