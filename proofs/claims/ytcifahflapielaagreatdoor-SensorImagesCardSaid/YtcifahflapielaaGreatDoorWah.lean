import Derived.Test.YtcifahflapielaaGreatDoorWag
set_option linter.all false
set_option maxRecDepth 100000
namespace VE
namespace lW
def asS:cD prog aI T5 k37=true:=by decide+kernel
end lW
end VE
