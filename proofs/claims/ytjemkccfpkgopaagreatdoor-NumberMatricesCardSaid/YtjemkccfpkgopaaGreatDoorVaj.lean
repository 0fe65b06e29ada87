import Derived.Test.YtjemkccfpkgopaaGreatDoorVai
set_option linter.all false
set_option maxRecDepth 100000
namespace VE
namespace p7
def azU:bt prog aE T0 k0=true:=by decide+kernel
def azV:bt prog aE T0 k4=true:=by decide+kernel
def azW:bt prog aE T0 k8=true:=by decide+kernel
def av9:bt prog aE T0 k12=true:=by decide+kernel
def awa:bt prog aE T0 k16=true:=by decide+kernel
def awb:bt prog aE T0 k20=true:=by decide+kernel
def awc:bt prog aE T0 k21=true:=by decide+kernel
def awd:bt prog aE T0 k25=true:=by decide+kernel
def awe:bt prog aE T0 k29=true:=by decide+kernel
def awf:bt prog aE T0 k33=true:=by decide+kernel
def awg:bt prog aE T0 k37=true:=by decide+kernel
def awh:bt prog aE T0 k41=true:=by decide+kernel
def awi:bt prog aE T1 k48=true:=by decide+kernel
def awj:bt prog aE T1 k52=true:=by decide+kernel
def awk:bt prog aE T1 k56=true:=by decide+kernel
def awl:bt prog aE T1 k60=true:=by decide+kernel
def awm:bt prog aE T1 k64=true:=by decide+kernel
def awn:bt prog aE T2 k68=true:=by decide+kernel
def awo:bt prog aE T2 k72=true:=by decide+kernel
def awp:bt prog aE T3 k76=true:=by decide+kernel
def awq:bt prog aE T3 k80=true:=by decide+kernel
def awr:bt prog aE T4 k84=true:=by decide+kernel
def aws:bt prog aE T6 k88=true:=by decide+kernel
end p7
end VE
