import Derived.Test.YtcifahflapielaaGreatDoorWag
set_option linter.all false
set_option maxRecDepth 100000
namespace VE
namespace lW
def asZ:cD prog aI T0 k13=true:=by decide+kernel
def as0:cD prog aI T1 k19=true:=by decide+kernel
def as3:cD prog aI T2 k25=true:=by decide+kernel
def as4:cD prog aI T2 k39=true:=by decide+kernel
def as5:cD prog aI T3 k32=true:=by decide+kernel
def as6:cD prog aI T5 k50=true:=by decide+kernel
def as7:cD prog aI T5 k52=true:=by decide+kernel
end lW
end VE
