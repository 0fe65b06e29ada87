import Derived.Test.YtabhmepaflffeaaGreatDoorXag
set_option linter.all false
set_option maxRecDepth 100000
namespace VE
namespace mH
def awf:cz prog aK T1 k14=true:=by decide+kernel
def awg:cz prog aK T1 k20=true:=by decide+kernel
def awh:cz prog aK T2 k26=true:=by decide+kernel
def awi:cz prog aK T2 k28=true:=by decide+kernel
def awj:cz prog aK T2 k41=true:=by decide+kernel
def awk:cz prog aK T3 k33=true:=by decide+kernel
end mH
end VE
