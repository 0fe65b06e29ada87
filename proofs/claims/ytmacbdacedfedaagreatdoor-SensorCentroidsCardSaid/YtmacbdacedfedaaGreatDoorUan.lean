import Derived.Test.YtmacbdacedfedaaGreatDoorUag
set_option linter.all false
set_option maxRecDepth 100000
namespace VE
namespace lZ
def ayi:cw prog aJ T0 k2=true:=by decide+kernel
def ayj:cw prog aJ T0 k5=true:=by decide+kernel
def ayk:cw prog aJ T0 k8=true:=by decide+kernel
def au2:cw prog aJ T0 k12=true:=by decide+kernel
def au3:cw prog aJ T1 k18=true:=by decide+kernel
def au4:cw prog aJ T1 k24=true:=by decide+kernel
def au5:cw prog aJ T3 k31=true:=by decide+kernel
def au6:cw prog aJ T5 k45=true:=by decide+kernel
def au7:cw prog aJ T5 k48=true:=by decide+kernel
def au8:cw prog aJ T5 k51=true:=by decide+kernel
def au9:cw prog aJ T6 Zm=true:=by decide+kernel
end lZ
end VE
