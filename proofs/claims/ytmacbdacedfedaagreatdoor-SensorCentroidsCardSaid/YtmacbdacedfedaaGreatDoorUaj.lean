import Derived.Test.YtmacbdacedfedaaGreatDoorUag
set_option linter.all false
set_option maxRecDepth 100000
namespace VE
namespace lZ
def auz:cw prog aJ T0 k13=true:=by decide+kernel
def auA:cw prog aJ T1 k19=true:=by decide+kernel
def auB:cw prog aJ T2 k25=true:=by decide+kernel
def auC:cw prog aJ T2 k39=true:=by decide+kernel
def auD:cw prog aJ T3 k32=true:=by decide+kernel
def auE:cw prog aJ T5 k50=true:=by decide+kernel
def auF:cw prog aJ T5 k52=true:=by decide+kernel
end lZ
end VE
