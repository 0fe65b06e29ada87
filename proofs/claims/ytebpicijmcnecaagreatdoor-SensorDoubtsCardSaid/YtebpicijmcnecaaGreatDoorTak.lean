import Derived.Test.YtebpicijmcnecaaGreatDoorTag
set_option linter.all false
set_option maxRecDepth 100000
namespace VE
namespace lP
def aw0:cw prog aI T0 k3=true:=by decide+kernel
def aw1:cw prog aI T0 k6=true:=by decide+kernel
def aw2:cw prog aI T0 k9=true:=by decide+kernel
def atp:cw prog aI T1 k15=true:=by decide+kernel
def atq:cw prog aI T1 k21=true:=by decide+kernel
def atr:cw prog aI T2 k27=true:=by decide+kernel
def ats:cw prog aI T2 k43=true:=by decide+kernel
def att:cw prog aI T4 k34=true:=by decide+kernel
def atu:cw prog aI T5 k46=true:=by decide+kernel
def atv:cw prog aI T5 k53=true:=by decide+kernel
end lP
end VE
