import Derived.Test.YtjemkccfpkgopaaGreatDoorXai
set_option linter.all false
set_option maxRecDepth 100000
namespace VE
namespace pR
def azi:bl prog aE T0 k0=true:=by decide+kernel
def azj:bl prog aE T0 k4=true:=by decide+kernel
def azk:bl prog aE T0 k8=true:=by decide+kernel
def avD:bl prog aE T0 k12=true:=by decide+kernel
def avE:bl prog aE T0 k16=true:=by decide+kernel
def avF:bl prog aE T0 k20=true:=by decide+kernel
def avG:bl prog aE T0 k21=true:=by decide+kernel
def avH:bl prog aE T0 k25=true:=by decide+kernel
def avI:bl prog aE T0 k29=true:=by decide+kernel
def avJ:bl prog aE T0 k33=true:=by decide+kernel
def avK:bl prog aE T0 k37=true:=by decide+kernel
def avL:bl prog aE T0 k41=true:=by decide+kernel
def avM:bl prog aE T1 k48=true:=by decide+kernel
def avN:bl prog aE T1 k52=true:=by decide+kernel
def avO:bl prog aE T1 k56=true:=by decide+kernel
def avP:bl prog aE T1 k60=true:=by decide+kernel
def avQ:bl prog aE T1 k64=true:=by decide+kernel
def avR:bl prog aE T2 k68=true:=by decide+kernel
def avS:bl prog aE T2 k72=true:=by decide+kernel
def avT:bl prog aE T3 k76=true:=by decide+kernel
def avU:bl prog aE T3 k80=true:=by decide+kernel
def avV:bl prog aE T4 k84=true:=by decide+kernel
def avW:bl prog aE T6 k88=true:=by decide+kernel
end pR
end VE
