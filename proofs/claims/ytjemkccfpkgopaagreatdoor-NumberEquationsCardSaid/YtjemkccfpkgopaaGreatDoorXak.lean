import Derived.Test.YtjemkccfpkgopaaGreatDoorXai
set_option linter.all false
set_option maxRecDepth 100000
namespace VE
namespace pR
def azl:bl prog aE T0 k1=true:=by decide+kernel
def azm:bl prog aE T0 k5=true:=by decide+kernel
def azn:bl prog aE T0 k9=true:=by decide+kernel
def avX:bl prog aE T0 k13=true:=by decide+kernel
def avY:bl prog aE T0 k17=true:=by decide+kernel
def avZ:bl prog aE T0 k22=true:=by decide+kernel
def av0:bl prog aE T0 k26=true:=by decide+kernel
def av1:bl prog aE T0 k30=true:=by decide+kernel
def av2:bl prog aE T0 k34=true:=by decide+kernel
def av3:bl prog aE T0 k38=true:=by decide+kernel
def av4:bl prog aE T0 k42=true:=by decide+kernel
def av5:bl prog aE T0 k45=true:=by decide+kernel
def av6:bl prog aE T1 k49=true:=by decide+kernel
def av7:bl prog aE T1 k53=true:=by decide+kernel
def av8:bl prog aE T1 k57=true:=by decide+kernel
def av9:bl prog aE T1 k61=true:=by decide+kernel
def awa:bl prog aE T1 k65=true:=by decide+kernel
def awb:bl prog aE T2 k69=true:=by decide+kernel
def awc:bl prog aE T2 k73=true:=by decide+kernel
def awd:bl prog aE T3 k77=true:=by decide+kernel
def awe:bl prog aE T3 k81=true:=by decide+kernel
def awf:bl prog aE T4 k85=true:=by decide+kernel
def awg:bl prog aE T7 k89=true:=by decide+kernel
end pR
end VE
