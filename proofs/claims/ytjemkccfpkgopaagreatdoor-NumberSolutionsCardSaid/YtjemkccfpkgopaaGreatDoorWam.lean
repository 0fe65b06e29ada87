import Derived.Test.YtjemkccfpkgopaaGreatDoorWai
set_option linter.all false
set_option maxRecDepth 100000
namespace VE
namespace p6
def az3:bm prog aC T0 k3=true:=by decide+kernel
def az4:bm prog aC T0 k7=true:=by decide+kernel
def axd:bm prog aC T0 k11=true:=by decide+kernel
def axe:bm prog aC T0 k15=true:=by decide+kernel
def axf:bm prog aC T0 k19=true:=by decide+kernel
def axg:bm prog aC T0 k24=true:=by decide+kernel
def axh:bm prog aC T0 k28=true:=by decide+kernel
def axi:bm prog aC T0 k32=true:=by decide+kernel
def axj:bm prog aC T0 k36=true:=by decide+kernel
def axk:bm prog aC T0 k40=true:=by decide+kernel
def axl:bm prog aC T0 k44=true:=by decide+kernel
def axm:bm prog aC T1 k47=true:=by decide+kernel
def axn:bm prog aC T1 k51=true:=by decide+kernel
def axo:bm prog aC T1 k55=true:=by decide+kernel
def axp:bm prog aC T1 k59=true:=by decide+kernel
def axq:bm prog aC T1 k63=true:=by decide+kernel
def axr:bm prog aC T1 k67=true:=by decide+kernel
def axs:bm prog aC T2 k71=true:=by decide+kernel
def axt:bm prog aC T2 k75=true:=by decide+kernel
def axu:bm prog aC T3 k79=true:=by decide+kernel
def axv:bm prog aC T4 k83=true:=by decide+kernel
def axw:bm prog aC T5 k87=true:=by decide+kernel
end p6
end VE
