import Derived.Test.YtjemkccfpkgopaaGreatDoorVai
set_option linter.all false
set_option maxRecDepth 100000
namespace VE
namespace p7
def azX:bt prog aE T0 k1=true:=by decide+kernel
def azY:bt prog aE T0 k5=true:=by decide+kernel
def azZ:bt prog aE T0 k9=true:=by decide+kernel
def awt:bt prog aE T0 k13=true:=by decide+kernel
def awu:bt prog aE T0 k17=true:=by decide+kernel
def awv:bt prog aE T0 k22=true:=by decide+kernel
def aww:bt prog aE T0 k26=true:=by decide+kernel
def awx:bt prog aE T0 k30=true:=by decide+kernel
def awy:bt prog aE T0 k34=true:=by decide+kernel
def awz:bt prog aE T0 k38=true:=by decide+kernel
def awA:bt prog aE T0 k42=true:=by decide+kernel
def awB:bt prog aE T0 k45=true:=by decide+kernel
def awC:bt prog aE T1 k49=true:=by decide+kernel
def awD:bt prog aE T1 k53=true:=by decide+kernel
def awE:bt prog aE T1 k57=true:=by decide+kernel
def awF:bt prog aE T1 k61=true:=by decide+kernel
def awG:bt prog aE T1 k65=true:=by decide+kernel
def awH:bt prog aE T2 k69=true:=by decide+kernel
def awI:bt prog aE T2 k73=true:=by decide+kernel
def awJ:bt prog aE T3 k77=true:=by decide+kernel
def awK:bt prog aE T3 k81=true:=by decide+kernel
def awL:bt prog aE T4 k85=true:=by decide+kernel
def awM:bt prog aE T7 k89=true:=by decide+kernel
end p7
end VE
