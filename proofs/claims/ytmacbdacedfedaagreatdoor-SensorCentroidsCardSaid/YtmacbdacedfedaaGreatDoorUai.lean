import Derived.Test.YtmacbdacedfedaaGreatDoorUag
set_option linter.all false
set_option maxRecDepth 100000
namespace VE
namespace lZ
def aus:cw prog aJ T1 k14=true:=by decide+kernel
def aut:cw prog aJ T1 k20=true:=by decide+kernel
def auu:cw prog aJ T2 k26=true:=by decide+kernel
def auv:cw prog aJ T2 k28=true:=by decide+kernel
def auw:cw prog aJ T2 k41=true:=by decide+kernel
def auy:cw prog aJ T3 k33=true:=by decide+kernel
end lZ
end VE
