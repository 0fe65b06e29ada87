import Derived.Test.YtcifahflapielaaGreatDoorWag
set_option linter.all false
set_option maxRecDepth 100000
namespace VE
namespace lW
def axf:cD prog aI T0 k2=true:=by decide+kernel
def axg:cD prog aI T0 k5=true:=by decide+kernel
def axh:cD prog aI T0 k8=true:=by decide+kernel
def atu:cD prog aI T0 k12=true:=by decide+kernel
def atv:cD prog aI T1 k18=true:=by decide+kernel
def atw:cD prog aI T1 k24=true:=by decide+kernel
def atx:cD prog aI T3 k31=true:=by decide+kernel
def aty:cD prog aI T5 k45=true:=by decide+kernel
def atz:cD prog aI T5 k48=true:=by decide+kernel
def atA:cD prog aI T5 k51=true:=by decide+kernel
def atB:cD prog aI T6 Za=true:=by decide+kernel
end lW
end VE
