import Derived.Test.YtebpicijmcnecaaGreatDoorWag
set_option linter.all false
set_option maxRecDepth 100000
namespace VE
namespace lY
def aw7:cz prog aI T0 k3=true:=by decide+kernel
def aw8:cz prog aI T0 k6=true:=by decide+kernel
def aw9:cz prog aI T0 k9=true:=by decide+kernel
def atx:cz prog aI T1 k15=true:=by decide+kernel
def aty:cz prog aI T1 k21=true:=by decide+kernel
def atz:cz prog aI T2 k27=true:=by decide+kernel
def atA:cz prog aI T2 k43=true:=by decide+kernel
def atB:cz prog aI T4 k34=true:=by decide+kernel
def atD:cz prog aI T5 k46=true:=by decide+kernel
def atE:cz prog aI T5 k53=true:=by decide+kernel
end lY
end VE
