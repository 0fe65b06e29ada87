import Derived.Test.YtjemkccfpkgopaaGreatDoorXai
set_option linter.all false
set_option maxRecDepth 100000
namespace VE
namespace pR
def azq:bl prog aE T0 k3=true:=by decide+kernel
def azr:bl prog aE T0 k7=true:=by decide+kernel
def awC:bl prog aE T0 k11=true:=by decide+kernel
def awD:bl prog aE T0 k15=true:=by decide+kernel
def awE:bl prog aE T0 k19=true:=by decide+kernel
def awF:bl prog aE T0 k24=true:=by decide+kernel
def awG:bl prog aE T0 k28=true:=by decide+kernel
def awH:bl prog aE T0 k32=true:=by decide+kernel
def awI:bl prog aE T0 k36=true:=by decide+kernel
def awJ:bl prog aE T0 k40=true:=by decide+kernel
def awK:bl prog aE T0 k44=true:=by decide+kernel
def awL:bl prog aE T1 k47=true:=by decide+kernel
def awM:bl prog aE T1 k51=true:=by decide+kernel
def awN:bl prog aE T1 k55=true:=by decide+kernel
def awO:bl prog aE T1 k59=true:=by decide+kernel
def awP:bl prog aE T1 k63=true:=by decide+kernel
def awQ:bl prog aE T1 k67=true:=by decide+kernel
def awR:bl prog aE T2 k71=true:=by decide+kernel
def awS:bl prog aE T2 k75=true:=by decide+kernel
def awT:bl prog aE T3 k79=true:=by decide+kernel
def awU:bl prog aE T4 k83=true:=by decide+kernel
def awV:bl prog aE T5 k87=true:=by decide+kernel
end pR
end VE
