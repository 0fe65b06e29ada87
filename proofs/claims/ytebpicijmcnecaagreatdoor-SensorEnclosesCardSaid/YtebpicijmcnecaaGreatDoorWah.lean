import Derived.Test.YtebpicijmcnecaaGreatDoorWag
set_option linter.all false
set_option maxRecDepth 100000
namespace VE
namespace lY
def atj:cz prog aI T5 k37=true:=by decide+kernel
end lY
end VE
