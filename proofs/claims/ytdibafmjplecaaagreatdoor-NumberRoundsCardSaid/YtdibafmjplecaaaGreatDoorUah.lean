import Derived.Test.YtdibafmjplecaaaGreatDoorUag
set_option linter.all false
set_option maxRecDepth 100000
namespace VE
namespace oH
def axr:bj prog az T0 k0=true:=by decide+kernel
def axs:bj prog az T0 k4=true:=by decide+kernel
def axt:bj prog az T0 k8=true:=by decide+kernel
def ats:bj prog az T0 k12=true:=by decide+kernel
def att:bj prog az T0 k16=true:=by decide+kernel
def atu:bj prog az T0 k20=true:=by decide+kernel
def atv:bj prog az T0 k21=true:=by decide+kernel
def atw:bj prog az T0 k25=true:=by decide+kernel
def atx:bj prog az T0 k29=true:=by decide+kernel
def aty:bj prog az T0 k33=true:=by decide+kernel
def atz:bj prog az T0 k37=true:=by decide+kernel
def atA:bj prog az T0 k41=true:=by decide+kernel
def atB:bj prog az T1 k48=true:=by decide+kernel
def atD:bj prog az T1 k52=true:=by decide+kernel
def atE:bj prog az T1 k56=true:=by decide+kernel
def atF:bj prog az T1 k60=true:=by decide+kernel
def atG:bj prog az T1 k64=true:=by decide+kernel
def atH:bj prog az T2 k68=true:=by decide+kernel
def atI:bj prog az T2 k72=true:=by decide+kernel
def atJ:bj prog az T3 k76=true:=by decide+kernel
def atK:bj prog az T3 k80=true:=by decide+kernel
def atL:bj prog az T4 k84=true:=by decide+kernel
def atM:bj prog az T6 k88=true:=by decide+kernel
end oH
end VE
