import Derived.Test.YtabhmepaflffeaaGreatDoorXag
set_option linter.all false
set_option maxRecDepth 100000
namespace VE
namespace mH
def awe:cz prog aK T5 k37=true:=by decide+kernel
end mH
end VE
