import Derived.Test.YtebpicijmcnecaaGreatDoorWag
set_option linter.all false
set_option maxRecDepth 100000
namespace VE
namespace lY
def atk:cz prog aI T1 k14=true:=by decide+kernel
def atl:cz prog aI T1 k20=true:=by decide+kernel
def atm:cz prog aI T2 k26=true:=by decide+kernel
def atn:cz prog aI T2 k28=true:=by decide+kernel
def ato:cz prog aI T2 k41=true:=by decide+kernel
def atp:cz prog aI T3 k33=true:=by decide+kernel
end lY
end VE
