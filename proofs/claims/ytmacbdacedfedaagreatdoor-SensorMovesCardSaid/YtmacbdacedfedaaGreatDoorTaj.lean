import Derived.Test.YtmacbdacedfedaaGreatDoorTag
set_option linter.all false
set_option maxRecDepth 100000
namespace VE
namespace lj
def ar8:b9 prog aI T0 k13=true:=by decide+kernel
def ar9:b9 prog aI T1 k19=true:=by decide+kernel
def asa:b9 prog aI T2 k25=true:=by decide+kernel
def asb:b9 prog aI T2 k39=true:=by decide+kernel
def asd:b9 prog aI T3 k32=true:=by decide+kernel
def ase:b9 prog aI T5 k50=true:=by decide+kernel
def asf:b9 prog aI T5 k52=true:=by decide+kernel
end lj
end VE
