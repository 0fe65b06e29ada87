import Derived.Test.YtabhmepaflffeaaGreatDoorWag
set_option linter.all false
set_option maxRecDepth 100000
namespace VE
namespace mq
def avU:cy prog aJ T0 k11=true:=by decide+kernel
def avV:cy prog aJ T1 k17=true:=by decide+kernel
def avW:cy prog aJ T1 k23=true:=by decide+kernel
def avX:cy prog aJ T2 k42=true:=by decide+kernel
def avY:cy prog aJ T3 k30=true:=by decide+kernel
def avZ:cy prog aJ T4 k36=true:=by decide+kernel
def av0:cy prog aJ T5 k44=true:=by decide+kernel
def av1:cy prog aJ T5 k49=true:=by decide+kernel
end mq
end VE
