import Derived.Test.YtabhmepaflffeaaGreatDoorXag
set_option linter.all false
set_option maxRecDepth 100000
namespace VE
namespace mH
def awG:cz prog aK T0 k11=true:=by decide+kernel
def awH:cz prog aK T1 k17=true:=by decide+kernel
def awI:cz prog aK T1 k23=true:=by decide+kernel
def awJ:cz prog aK T2 k42=true:=by decide+kernel
def awK:cz prog aK T3 k30=true:=by decide+kernel
def awL:cz prog aK T4 k36=true:=by decide+kernel
def awM:cz prog aK T5 k44=true:=by decide+kernel
def awN:cz prog aK T5 k49=true:=by decide+kernel
end mH
end VE
