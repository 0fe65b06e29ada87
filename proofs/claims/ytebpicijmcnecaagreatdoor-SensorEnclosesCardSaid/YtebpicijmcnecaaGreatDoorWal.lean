import Derived.Test.YtebpicijmcnecaaGreatDoorWag
set_option linter.all false
set_option maxRecDepth 100000
namespace VE
namespace lY
def axa:cz prog aI T0 k0=true:=by decide+kernel
def axb:cz prog aI T0 k1=true:=by decide+kernel
def axc:cz prog aI T0 k4=true:=by decide+kernel
def axd:cz prog aI T0 k7=true:=by decide+kernel
def atF:cz prog aI T0 k10=true:=by decide+kernel
def atG:cz prog aI T1 k16=true:=by decide+kernel
def atH:cz prog aI T1 k22=true:=by decide+kernel
def atI:cz prog aI T2 k40=true:=by decide+kernel
def atJ:cz prog aI T2 k29=true:=by decide+kernel
def atK:cz prog aI T4 k35=true:=by decide+kernel
def atL:cz prog aI T5 k47=true:=by decide+kernel
end lY
end VE
