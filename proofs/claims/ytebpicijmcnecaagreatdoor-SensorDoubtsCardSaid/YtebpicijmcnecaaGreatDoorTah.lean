import Derived.Test.YtebpicijmcnecaaGreatDoorTag
set_option linter.all false
set_option maxRecDepth 100000
namespace VE
namespace lP
def atb:cw prog aI T5 k37=true:=by decide+kernel
end lP
end VE
