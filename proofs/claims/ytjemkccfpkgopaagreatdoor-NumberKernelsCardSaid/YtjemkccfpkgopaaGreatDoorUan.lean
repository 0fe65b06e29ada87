import Derived.Test.YtjemkccfpkgopaaGreatDoorUaj
set_option linter.all false
set_option maxRecDepth 100000
namespace VE
namespace pc
def aym:bj prog aD T0 k3=true:=by decide+kernel
def ayn:bj prog aD T0 k7=true:=by decide+kernel
def avm:bj prog aD T0 k11=true:=by decide+kernel
def avn:bj prog aD T0 k15=true:=by decide+kernel
def avo:bj prog aD T0 k19=true:=by decide+kernel
def avp:bj prog aD T0 k24=true:=by decide+kernel
def avq:bj prog aD T0 k28=true:=by decide+kernel
def avr:bj prog aD T0 k32=true:=by decide+kernel
def avt:bj prog aD T0 k36=true:=by decide+kernel
def avu:bj prog aD T0 k40=true:=by decide+kernel
def avv:bj prog aD T0 k44=true:=by decide+kernel
def avw:bj prog aD T1 k47=true:=by decide+kernel
def avx:bj prog aD T1 k51=true:=by decide+kernel
def avy:bj prog aD T1 k55=true:=by decide+kernel
def avz:bj prog aD T1 k59=true:=by decide+kernel
def avA:bj prog aD T1 k63=true:=by decide+kernel
def avB:bj prog aD T1 k67=true:=by decide+kernel
def avC:bj prog aD T2 k71=true:=by decide+kernel
def avD:bj prog aD T2 k75=true:=by decide+kernel
def avE:bj prog aD T3 k79=true:=by decide+kernel
def avF:bj prog aD T4 k83=true:=by decide+kernel
def avG:bj prog aD T5 k87=true:=by decide+kernel
end pc
end VE
