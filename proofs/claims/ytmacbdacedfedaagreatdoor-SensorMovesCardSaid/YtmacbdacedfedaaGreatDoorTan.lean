import Derived.Test.YtmacbdacedfedaaGreatDoorTag
set_option linter.all false
set_option maxRecDepth 100000
namespace VE
namespace lj
def avU:b9 prog aI T0 k2=true:=by decide+kernel
def avV:b9 prog aI T0 k5=true:=by decide+kernel
def avW:b9 prog aI T0 k8=true:=by decide+kernel
def asH:b9 prog aI T0 k12=true:=by decide+kernel
def asI:b9 prog aI T1 k18=true:=by decide+kernel
def asJ:b9 prog aI T1 k24=true:=by decide+kernel
def asK:b9 prog aI T3 k31=true:=by decide+kernel
def asL:b9 prog aI T5 k45=true:=by decide+kernel
def asM:b9 prog aI T5 k48=true:=by decide+kernel
def asP:b9 prog aI T5 k51=true:=by decide+kernel
def asQ:b9 prog aI T6 WY=true:=by decide+kernel
end lj
end VE
