import Derived.Test.YtlkgmaenobiooaaGreatDoorTak
set_option linter.all false
set_option maxRecDepth 100000
namespace VE
namespace ml
def aBX:bm prog aE T0 k1=true:=by decide+kernel
def aBY:bm prog aE T0 k5=true:=by decide+kernel
def aBZ:bm prog aE T0 k9=true:=by decide+kernel
def ayE:bm prog aE T0 k13=true:=by decide+kernel
def ayF:bm prog aE T0 k17=true:=by decide+kernel
def ayG:bm prog aE T0 k22=true:=by decide+kernel
def ayH:bm prog aE T0 k26=true:=by decide+kernel
def ayI:bm prog aE T0 k30=true:=by decide+kernel
def ayJ:bm prog aE T0 k34=true:=by decide+kernel
def ayK:bm prog aE T0 k38=true:=by decide+kernel
def ayL:bm prog aE T0 k42=true:=by decide+kernel
def ayM:bm prog aE T0 k45=true:=by decide+kernel
def ayN:bm prog aE T1 k49=true:=by decide+kernel
def ayO:bm prog aE T1 k53=true:=by decide+kernel
def ayP:bm prog aE T1 k57=true:=by decide+kernel
def ayQ:bm prog aE T1 k61=true:=by decide+kernel
def ayR:bm prog aE T1 k65=true:=by decide+kernel
def ayS:bm prog aE T2 k69=true:=by decide+kernel
def ayT:bm prog aE T2 k73=true:=by decide+kernel
def ayU:bm prog aE T3 k77=true:=by decide+kernel
def ayV:bm prog aE T3 k81=true:=by decide+kernel
def ayW:bm prog aE T4 k85=true:=by decide+kernel
def ayX:bm prog aE T7 k89=true:=by decide+kernel
end ml
end VE
