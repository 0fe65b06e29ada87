import Derived.Test.YtlkgmaenobiooaaGreatDoorTak
set_option linter.all false
set_option maxRecDepth 100000
namespace VE
namespace ml
def aB2:bm prog aE T0 k3=true:=by decide+kernel
def aB3:bm prog aE T0 k7=true:=by decide+kernel
def azj:bm prog aE T0 k11=true:=by decide+kernel
def azk:bm prog aE T0 k15=true:=by decide+kernel
def azl:bm prog aE T0 k19=true:=by decide+kernel
def azm:bm prog aE T0 k24=true:=by decide+kernel
def azn:bm prog aE T0 k28=true:=by decide+kernel
def azo:bm prog aE T0 k32=true:=by decide+kernel
def azp:bm prog aE T0 k36=true:=by decide+kernel
def azq:bm prog aE T0 k40=true:=by decide+kernel
def azr:bm prog aE T0 k44=true:=by decide+kernel
def azs:bm prog aE T1 k47=true:=by decide+kernel
def azt:bm prog aE T1 k51=true:=by decide+kernel
def azu:bm prog aE T1 k55=true:=by decide+kernel
def azv:bm prog aE T1 k59=true:=by decide+kernel
def azw:bm prog aE T1 k63=true:=by decide+kernel
def azx:bm prog aE T1 k67=true:=by decide+kernel
def azy:bm prog aE T2 k71=true:=by decide+kernel
def azz:bm prog aE T2 k75=true:=by decide+kernel
def azA:bm prog aE T3 k79=true:=by decide+kernel
def azB:bm prog aE T4 k83=true:=by decide+kernel
def azC:bm prog aE T5 k87=true:=by decide+kernel
end ml
end VE
