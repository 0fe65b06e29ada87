import Derived.Test.YtjemkccfpkgopaaGreatDoorWai
set_option linter.all false
set_option maxRecDepth 100000
namespace VE
namespace p6
def azV:bm prog aC T0 k0=true:=by decide+kernel
def azW:bm prog aC T0 k4=true:=by decide+kernel
def azX:bm prog aC T0 k8=true:=by decide+kernel
def awe:bm prog aC T0 k12=true:=by decide+kernel
def awf:bm prog aC T0 k16=true:=by decide+kernel
def awg:bm prog aC T0 k20=true:=by decide+kernel
def awh:bm prog aC T0 k21=true:=by decide+kernel
def awi:bm prog aC T0 k25=true:=by decide+kernel
def awj:bm prog aC T0 k29=true:=by decide+kernel
def awk:bm prog aC T0 k33=true:=by decide+kernel
def awl:bm prog aC T0 k37=true:=by decide+kernel
def awm:bm prog aC T0 k41=true:=by decide+kernel
def awn:bm prog aC T1 k48=true:=by decide+kernel
def awo:bm prog aC T1 k52=true:=by decide+kernel
def awp:bm prog aC T1 k56=true:=by decide+kernel
def awq:bm prog aC T1 k60=true:=by decide+kernel
def awr:bm prog aC T1 k64=true:=by decide+kernel
def aws:bm prog aC T2 k68=true:=by decide+kernel
def awt:bm prog aC T2 k72=true:=by decide+kernel
def awu:bm prog aC T3 k76=true:=by decide+kernel
def awv:bm prog aC T3 k80=true:=by decide+kernel
def aww:bm prog aC T4 k84=true:=by decide+kernel
def awx:bm prog aC T6 k88=true:=by decide+kernel
end p6
end VE
