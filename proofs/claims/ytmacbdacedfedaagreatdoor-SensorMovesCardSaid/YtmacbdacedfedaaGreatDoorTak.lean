import Derived.Test.YtmacbdacedfedaaGreatDoorTag
set_option linter.all false
set_option maxRecDepth 100000
namespace VE
namespace lj
def avN:b9 prog aI T0 k3=true:=by decide+kernel
def avO:b9 prog aI T0 k6=true:=by decide+kernel
def avP:b9 prog aI T0 k9=true:=by decide+kernel
def asg:b9 prog aI T1 k15=true:=by decide+kernel
def ash:b9 prog aI T1 k21=true:=by decide+kernel
def asi:b9 prog aI T2 k27=true:=by decide+kernel
def asj:b9 prog aI T2 k43=true:=by decide+kernel
def asl:b9 prog aI T4 k34=true:=by decide+kernel
def aso:b9 prog aI T5 k46=true:=by decide+kernel
def asp:b9 prog aI T5 k53=true:=by decide+kernel
end lj
end VE
