import Derived.Test.YtebpicijmcnecaaGreatDoorWag
set_option linter.all false
set_option maxRecDepth 100000
namespace VE
namespace lY
def atM:cz prog aI T0 k11=true:=by decide+kernel
def atN:cz prog aI T1 k17=true:=by decide+kernel
def atO:cz prog aI T1 k23=true:=by decide+kernel
def atP:cz prog aI T2 k42=true:=by decide+kernel
def atQ:cz prog aI T3 k30=true:=by decide+kernel
def atS:cz prog aI T4 k36=true:=by decide+kernel
def atT:cz prog aI T5 k44=true:=by decide+kernel
def atU:cz prog aI T5 k49=true:=by decide+kernel
end lY
end VE
