import Derived.Test.YtebpicijmcnecaaGreatDoorTag
set_option linter.all false
set_option maxRecDepth 100000
namespace VE
namespace lP
def aw7:cw prog aI T0 k2=true:=by decide+kernel
def aw8:cw prog aI T0 k5=true:=by decide+kernel
def aw9:cw prog aI T0 k8=true:=by decide+kernel
def atM:cw prog aI T0 k12=true:=by decide+kernel
def atN:cw prog aI T1 k18=true:=by decide+kernel
def atO:cw prog aI T1 k24=true:=by decide+kernel
def atP:cw prog aI T3 k31=true:=by decide+kernel
def atQ:cw prog aI T5 k45=true:=by decide+kernel
def atS:cw prog aI T5 k48=true:=by decide+kernel
def atT:cw prog aI T5 k51=true:=by decide+kernel
def atU:cw prog aI T6 Yr=true:=by decide+kernel
end lP
end VE
