import Derived.Test.YtdibafmjplecaaaGreatDoorUag
set_option linter.all false
set_option maxRecDepth 100000
namespace VE
namespace oH
def axz:bj prog az T0 k3=true:=by decide+kernel
def axA:bj prog az T0 k7=true:=by decide+kernel
def auv:bj prog az T0 k11=true:=by decide+kernel
def auw:bj prog az T0 k15=true:=by decide+kernel
def auy:bj prog az T0 k19=true:=by decide+kernel
def auz:bj prog az T0 k24=true:=by decide+kernel
def auA:bj prog az T0 k28=true:=by decide+kernel
def auB:bj prog az T0 k32=true:=by decide+kernel
def auC:bj prog az T0 k36=true:=by decide+kernel
def auD:bj prog az T0 Xs=true:=by decide+kernel
def auE:bj prog az T0 k44=true:=by decide+kernel
def auF:bj prog az T1 k47=true:=by decide+kernel
def auG:bj prog az T1 k51=true:=by decide+kernel
def auH:bj prog az T1 k55=true:=by decide+kernel
def auI:bj prog az T1 k59=true:=by decide+kernel
def auJ:bj prog az T1 k63=true:=by decide+kernel
def auK:bj prog az T1 k67=true:=by decide+kernel
def auL:bj prog az T2 k71=true:=by decide+kernel
def auM:bj prog az T2 k75=true:=by decide+kernel
def auN:bj prog az T3 k79=true:=by decide+kernel
def auO:bj prog az T4 k83=true:=by decide+kernel
def auP:bj prog az T5 k87=true:=by decide+kernel
end oH
end VE
