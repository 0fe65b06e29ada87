import Derived.Test.YtebpicijmcnecaaGreatDoorTag
set_option linter.all false
set_option maxRecDepth 100000
namespace VE
namespace lP
def atE:cw prog aI T0 k11=true:=by decide+kernel
def atF:cw prog aI T1 k17=true:=by decide+kernel
def atG:cw prog aI T1 k23=true:=by decide+kernel
def atH:cw prog aI T2 k42=true:=by decide+kernel
def atI:cw prog aI T3 k30=true:=by decide+kernel
def atJ:cw prog aI T4 k36=true:=by decide+kernel
def atK:cw prog aI T5 k44=true:=by decide+kernel
def atL:cw prog aI T5 k49=true:=by decide+kernel
end lP
end VE
