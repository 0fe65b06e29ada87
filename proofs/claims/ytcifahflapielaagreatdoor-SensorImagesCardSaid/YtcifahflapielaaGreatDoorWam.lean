import Derived.Test.YtcifahflapielaaGreatDoorWag
set_option linter.all false
set_option maxRecDepth 100000
namespace VE
namespace lW
def atm:cD prog aI T0 k11=true:=by decide+kernel
def atn:cD prog aI T1 k17=true:=by decide+kernel
def ato:cD prog aI T1 k23=true:=by decide+kernel
def atp:cD prog aI T2 k42=true:=by decide+kernel
def atq:cD prog aI T3 k30=true:=by decide+kernel
def atr:cD prog aI T4 k36=true:=by decide+kernel
def ats:cD prog aI T5 k44=true:=by decide+kernel
def att:cD prog aI T5 k49=true:=by decide+kernel
end lW
end VE
