import Derived.Test.YtabhmepaflffeaaGreatDoorXag
set_option linter.all false
set_option maxRecDepth 100000
namespace VE
namespace mH
def awl:cz prog aK T0 k13=true:=by decide+kernel
def awm:cz prog aK T1 k19=true:=by decide+kernel
def awn:cz prog aK T2 k25=true:=by decide+kernel
def awo:cz prog aK T2 k39=true:=by decide+kernel
def awp:cz prog aK T3 k32=true:=by decide+kernel
def awq:cz prog aK T5 k50=true:=by decide+kernel
def awr:cz prog aK T5 k52=true:=by decide+kernel
end mH
end VE
