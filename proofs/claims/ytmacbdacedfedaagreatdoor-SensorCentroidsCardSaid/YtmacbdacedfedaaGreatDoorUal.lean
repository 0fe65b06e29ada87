import Derived.Test.YtmacbdacedfedaaGreatDoorUag
set_option linter.all false
set_option maxRecDepth 100000
namespace VE
namespace lZ
def aye:cw prog aJ T0 k0=true:=by decide+kernel
def ayf:cw prog aJ T0 k1=true:=by decide+kernel
def ayg:cw prog aJ T0 k4=true:=by decide+kernel
def ayh:cw prog aJ T0 k7=true:=by decide+kernel
def auN:cw prog aJ T0 k10=true:=by decide+kernel
def auO:cw prog aJ T1 k16=true:=by decide+kernel
def auP:cw prog aJ T1 k22=true:=by decide+kernel
def auQ:cw prog aJ T2 k40=true:=by decide+kernel
def auR:cw prog aJ T2 k29=true:=by decide+kernel
def auS:cw prog aJ T4 k35=true:=by decide+kernel
def auT:cw prog aJ T5 k47=true:=by decide+kernel
end lZ
end VE
