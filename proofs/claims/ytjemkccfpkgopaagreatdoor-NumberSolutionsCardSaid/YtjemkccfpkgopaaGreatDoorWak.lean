import Derived.Test.YtjemkccfpkgopaaGreatDoorWai
set_option linter.all false
set_option maxRecDepth 100000
namespace VE
namespace p6
def azY:bm prog aC T0 k1=true:=by decide+kernel
def azZ:bm prog aC T0 k5=true:=by decide+kernel
def az0:bm prog aC T0 k9=true:=by decide+kernel
def awy:bm prog aC T0 k13=true:=by decide+kernel
def awz:bm prog aC T0 k17=true:=by decide+kernel
def awA:bm prog aC T0 k22=true:=by decide+kernel
def awB:bm prog aC T0 k26=true:=by decide+kernel
def awC:bm prog aC T0 k30=true:=by decide+kernel
def awD:bm prog aC T0 k34=true:=by decide+kernel
def awE:bm prog aC T0 k38=true:=by decide+kernel
def awF:bm prog aC T0 k42=true:=by decide+kernel
def awG:bm prog aC T0 k45=true:=by decide+kernel
def awH:bm prog aC T1 k49=true:=by decide+kernel
def awI:bm prog aC T1 k53=true:=by decide+kernel
def awJ:bm prog aC T1 k57=true:=by decide+kernel
def awK:bm prog aC T1 k61=true:=by decide+kernel
def awL:bm prog aC T1 k65=true:=by decide+kernel
def awM:bm prog aC T2 k69=true:=by decide+kernel
def awN:bm prog aC T2 k73=true:=by decide+kernel
def awO:bm prog aC T3 k77=true:=by decide+kernel
def awP:bm prog aC T3 k81=true:=by decide+kernel
def awQ:bm prog aC T4 k85=true:=by decide+kernel
def awR:bm prog aC T7 k89=true:=by decide+kernel
end p6
end VE
