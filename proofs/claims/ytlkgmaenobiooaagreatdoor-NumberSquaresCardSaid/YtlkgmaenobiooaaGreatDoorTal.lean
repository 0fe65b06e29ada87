import Derived.Test.YtlkgmaenobiooaaGreatDoorTak
set_option linter.all false
set_option maxRecDepth 100000
namespace VE
namespace ml
def aBU:bm prog aE T0 k0=true:=by decide+kernel
def aBV:bm prog aE T0 k4=true:=by decide+kernel
def aBW:bm prog aE T0 k8=true:=by decide+kernel
def ayk:bm prog aE T0 k12=true:=by decide+kernel
def ayl:bm prog aE T0 k16=true:=by decide+kernel
def aym:bm prog aE T0 k20=true:=by decide+kernel
def ayn:bm prog aE T0 k21=true:=by decide+kernel
def ayo:bm prog aE T0 k25=true:=by decide+kernel
def ayp:bm prog aE T0 k29=true:=by decide+kernel
def ayq:bm prog aE T0 k33=true:=by decide+kernel
def ayr:bm prog aE T0 k37=true:=by decide+kernel
def ays:bm prog aE T0 k41=true:=by decide+kernel
def ayt:bm prog aE T1 k48=true:=by decide+kernel
def ayu:bm prog aE T1 k52=true:=by decide+kernel
def ayv:bm prog aE T1 k56=true:=by decide+kernel
def ayw:bm prog aE T1 k60=true:=by decide+kernel
def ayx:bm prog aE T1 k64=true:=by decide+kernel
def ayy:bm prog aE T2 k68=true:=by decide+kernel
def ayz:bm prog aE T2 k72=true:=by decide+kernel
def ayA:bm prog aE T3 k76=true:=by decide+kernel
def ayB:bm prog aE T3 k80=true:=by decide+kernel
def ayC:bm prog aE T4 k84=true:=by decide+kernel
def ayD:bm prog aE T6 k88=true:=by decide+kernel
end ml
end VE
