import Derived.Test.YtmacbdacedfedaaGreatDoorUag
set_option linter.all false
set_option maxRecDepth 100000
namespace VE
namespace lZ
def aur:cw prog aJ T5 k37=true:=by decide+kernel
end lZ
end VE
