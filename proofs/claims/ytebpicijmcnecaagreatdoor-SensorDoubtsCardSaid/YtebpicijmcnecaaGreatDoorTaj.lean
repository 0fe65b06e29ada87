import Derived.Test.YtebpicijmcnecaaGreatDoorTag
set_option linter.all false
set_option maxRecDepth 100000
namespace VE
namespace lP
def ati:cw prog aI T0 k13=true:=by decide+kernel
def atj:cw prog aI T1 k19=true:=by decide+kernel
def atk:cw prog aI T2 k25=true:=by decide+kernel
def atl:cw prog aI T2 k39=true:=by decide+kernel
def atm:cw prog aI T3 k32=true:=by decide+kernel
def atn:cw prog aI T5 k50=true:=by decide+kernel
def ato:cw prog aI T5 k52=true:=by decide+kernel
end lP
end VE
