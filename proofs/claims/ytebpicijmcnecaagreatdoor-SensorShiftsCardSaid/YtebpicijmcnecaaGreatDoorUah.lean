import Derived.Test.YtebpicijmcnecaaGreatDoorUag
set_option linter.all false
set_option maxRecDepth 100000
namespace VE
namespace kE
def apu:bW prog aG T5 k37=true:=by decide+kernel
end kE
end VE
