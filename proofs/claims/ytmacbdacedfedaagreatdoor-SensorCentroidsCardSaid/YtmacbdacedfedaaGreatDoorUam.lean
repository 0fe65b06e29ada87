import Derived.Test.YtmacbdacedfedaaGreatDoorUag
set_option linter.all false
set_option maxRecDepth 100000
namespace VE
namespace lZ
def auU:cw prog aJ T0 k11=true:=by decide+kernel
def auV:cw prog aJ T1 k17=true:=by decide+kernel
def auW:cw prog aJ T1 k23=true:=by decide+kernel
def auX:cw prog aJ T2 k42=true:=by decide+kernel
def auY:cw prog aJ T3 k30=true:=by decide+kernel
def auZ:cw prog aJ T4 k36=true:=by decide+kernel
def au0:cw prog aJ T5 k44=true:=by decide+kernel
def au1:cw prog aJ T5 k49=true:=by decide+kernel
end lZ
end VE
