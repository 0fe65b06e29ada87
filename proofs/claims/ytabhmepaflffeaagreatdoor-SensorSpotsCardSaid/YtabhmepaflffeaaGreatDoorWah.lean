import Derived.Test.YtabhmepaflffeaaGreatDoorWag
set_option linter.all false
set_option maxRecDepth 100000
namespace VE
namespace mq
def avq:cy prog aJ T5 k37=true:=by decide+kernel
end mq
end VE
