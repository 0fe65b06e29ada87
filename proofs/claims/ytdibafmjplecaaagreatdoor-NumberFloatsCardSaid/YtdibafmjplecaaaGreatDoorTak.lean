import Derived.Test.YtdibafmjplecaaaGreatDoorTag
set_option linter.all false
set_option maxRecDepth 100000
namespace VE
namespace oD
def axK:bg prog az T0 k3=true:=by decide+kernel
def axL:bg prog az T0 k7=true:=by decide+kernel
def auG:bg prog az T0 k11=true:=by decide+kernel
def auH:bg prog az T0 k15=true:=by decide+kernel
def auI:bg prog az T0 k19=true:=by decide+kernel
def auJ:bg prog az T0 k24=true:=by decide+kernel
def auK:bg prog az T0 k28=true:=by decide+kernel
def auL:bg prog az T0 k32=true:=by decide+kernel
def auM:bg prog az T0 k36=true:=by decide+kernel
def auN:bg prog az T0 k40=true:=by decide+kernel
def auO:bg prog az T0 k44=true:=by decide+kernel
def auP:bg prog az T1 k47=true:=by decide+kernel
def auQ:bg prog az T1 k51=true:=by decide+kernel
def auR:bg prog az T1 k55=true:=by decide+kernel
def auS:bg prog az T1 k59=true:=by decide+kernel
def auT:bg prog az T1 k63=true:=by decide+kernel
def auU:bg prog az T1 k67=true:=by decide+kernel
def auV:bg prog az T2 k71=true:=by decide+kernel
def auW:bg prog az T2 k75=true:=by decide+kernel
def auX:bg prog az T3 k79=true:=by decide+kernel
def auY:bg prog az T4 k83=true:=by decide+kernel
def auZ:bg prog az T5 k87=true:=by decide+kernel
end oD
end VE
