import Derived.Test.YtmacbdacedfedaaGreatDoorTag
set_option linter.all false
set_option maxRecDepth 100000
namespace VE
namespace lj
def avQ:b9 prog aI T0 k0=true:=by decide+kernel
def avR:b9 prog aI T0 k1=true:=by decide+kernel
def avS:b9 prog aI T0 k4=true:=by decide+kernel
def avT:b9 prog aI T0 k7=true:=by decide+kernel
def asq:b9 prog aI T0 k10=true:=by decide+kernel
def ass:b9 prog aI T1 k16=true:=by decide+kernel
def ast:b9 prog aI T1 k22=true:=by decide+kernel
def asu:b9 prog aI T2 k40=true:=by decide+kernel
def asv:b9 prog aI T2 k29=true:=by decide+kernel
def asw:b9 prog aI T4 k35=true:=by decide+kernel
def asx:b9 prog aI T5 k47=true:=by decide+kernel
end lj
end VE
