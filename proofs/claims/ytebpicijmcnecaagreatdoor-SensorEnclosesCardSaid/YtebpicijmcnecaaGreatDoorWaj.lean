import Derived.Test.YtebpicijmcnecaaGreatDoorWag
set_option linter.all false
set_option maxRecDepth 100000
namespace VE
namespace lY
def atq:cz prog aI T0 k13=true:=by decide+kernel
def atr:cz prog aI T1 k19=true:=by decide+kernel
def ats:cz prog aI T2 k25=true:=by decide+kernel
def att:cz prog aI T2 k39=true:=by decide+kernel
def atu:cz prog aI T3 k32=true:=by decide+kernel
def atv:cz prog aI T5 k50=true:=by decide+kernel
def atw:cz prog aI T5 k52=true:=by decide+kernel
end lY
end VE
