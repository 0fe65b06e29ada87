import Derived.Test.YtebpicijmcnecaaGreatDoorTag
set_option linter.all false
set_option maxRecDepth 100000
namespace VE
namespace lP
def aw3:cw prog aI T0 k0=true:=by decide+kernel
def aw4:cw prog aI T0 k1=true:=by decide+kernel
def aw5:cw prog aI T0 k4=true:=by decide+kernel
def aw6:cw prog aI T0 k7=true:=by decide+kernel
def atw:cw prog aI T0 k10=true:=by decide+kernel
def atx:cw prog aI T1 k16=true:=by decide+kernel
def aty:cw prog aI T1 k22=true:=by decide+kernel
def atz:cw prog aI T2 k40=true:=by decide+kernel
def atA:cw prog aI T2 k29=true:=by decide+kernel
def atB:cw prog aI T4 k35=true:=by decide+kernel
def atD:cw prog aI T5 k47=true:=by decide+kernel
end lP
end VE
