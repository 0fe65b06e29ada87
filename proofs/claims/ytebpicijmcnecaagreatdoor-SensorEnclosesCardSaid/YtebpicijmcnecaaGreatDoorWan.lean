import Derived.Test.YtebpicijmcnecaaGreatDoorWag
set_option linter.all false
set_option maxRecDepth 100000
namespace VE
namespace lY
def axe:cz prog aI T0 k2=true:=by decide+kernel
def axf:cz prog aI T0 k5=true:=by decide+kernel
def axg:cz prog aI T0 k8=true:=by decide+kernel
def atV:cz prog aI T0 k12=true:=by decide+kernel
def atW:cz prog aI T1 k18=true:=by decide+kernel
def atX:cz prog aI T1 k24=true:=by decide+kernel
def atY:cz prog aI T3 k31=true:=by decide+kernel
def atZ:cz prog aI T5 k45=true:=by decide+kernel
def at0:cz prog aI T5 k48=true:=by decide+kernel
def at1:cz prog aI T5 k51=true:=by decide+kernel
def at2:cz prog aI T6 Yc=true:=by decide+kernel
end lY
end VE
