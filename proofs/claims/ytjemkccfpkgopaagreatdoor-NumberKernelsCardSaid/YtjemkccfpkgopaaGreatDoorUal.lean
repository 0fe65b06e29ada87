import Derived.Test.YtjemkccfpkgopaaGreatDoorUaj
set_option linter.all false
set_option maxRecDepth 100000
namespace VE
namespace pc
def ayh:bj prog aD T0 k1=true:=by decide+kernel
def ayi:bj prog aD T0 k5=true:=by decide+kernel
def ayj:bj prog aD T0 k9=true:=by decide+kernel
def auH:bj prog aD T0 k13=true:=by decide+kernel
def auI:bj prog aD T0 k17=true:=by decide+kernel
def auJ:bj prog aD T0 k22=true:=by decide+kernel
def auK:bj prog aD T0 k26=true:=by decide+kernel
def auL:bj prog aD T0 k30=true:=by decide+kernel
def auM:bj prog aD T0 k34=true:=by decide+kernel
def auN:bj prog aD T0 k38=true:=by decide+kernel
def auO:bj prog aD T0 k42=true:=by decide+kernel
def auP:bj prog aD T0 k45=true:=by decide+kernel
def auQ:bj prog aD T1 k49=true:=by decide+kernel
def auR:bj prog aD T1 k53=true:=by decide+kernel
def auS:bj prog aD T1 k57=true:=by decide+kernel
def auT:bj prog aD T1 k61=true:=by decide+kernel
def auU:bj prog aD T1 k65=true:=by decide+kernel
def auV:bj prog aD T2 k69=true:=by decide+kernel
def auW:bj prog aD T2 k73=true:=by decide+kernel
def auX:bj prog aD T3 k77=true:=by decide+kernel
def auY:bj prog aD T3 k81=true:=by decide+kernel
def auZ:bj prog aD T4 k85=true:=by decide+kernel
def au0:bj prog aD T7 k89=true:=by decide+kernel
end pc
end VE
