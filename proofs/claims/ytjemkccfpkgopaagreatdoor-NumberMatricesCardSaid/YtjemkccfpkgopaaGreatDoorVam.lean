import Derived.Test.YtjemkccfpkgopaaGreatDoorVai
set_option linter.all false
set_option maxRecDepth 100000
namespace VE
namespace p7
def az2:bt prog aE T0 k3=true:=by decide+kernel
def az3:bt prog aE T0 k7=true:=by decide+kernel
def aw8:bt prog aE T0 k11=true:=by decide+kernel
def aw9:bt prog aE T0 k15=true:=by decide+kernel
def axa:bt prog aE T0 k19=true:=by decide+kernel
def axb:bt prog aE T0 k24=true:=by decide+kernel
def axc:bt prog aE T0 k28=true:=by decide+kernel
def axd:bt prog aE T0 k32=true:=by decide+kernel
def axe:bt prog aE T0 k36=true:=by decide+kernel
def axf:bt prog aE T0 k40=true:=by decide+kernel
def axg:bt prog aE T0 k44=true:=by decide+kernel
def axh:bt prog aE T1 k47=true:=by decide+kernel
def axi:bt prog aE T1 k51=true:=by decide+kernel
def axj:bt prog aE T1 k55=true:=by decide+kernel
def axk:bt prog aE T1 k59=true:=by decide+kernel
def axl:bt prog aE T1 k63=true:=by decide+kernel
def axm:bt prog aE T1 k67=true:=by decide+kernel
def axn:bt prog aE T2 k71=true:=by decide+kernel
def axo:bt prog aE T2 k75=true:=by decide+kernel
def axp:bt prog aE T3 k79=true:=by decide+kernel
def axq:bt prog aE T4 k83=true:=by decide+kernel
def axr:bt prog aE T5 k87=true:=by decide+kernel
end p7
end VE
