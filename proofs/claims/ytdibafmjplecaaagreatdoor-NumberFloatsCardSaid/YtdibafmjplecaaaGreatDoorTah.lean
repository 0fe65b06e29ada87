import Derived.Test.YtdibafmjplecaaaGreatDoorTag
set_option linter.all false
set_option maxRecDepth 100000
namespace VE
namespace oD
def axC:bg prog az T0 k0=true:=by decide+kernel
def axD:bg prog az T0 k4=true:=by decide+kernel
def axE:bg prog az T0 k8=true:=by decide+kernel
def atD:bg prog az T0 k12=true:=by decide+kernel
def atE:bg prog az T0 k16=true:=by decide+kernel
def atF:bg prog az T0 k20=true:=by decide+kernel
def atG:bg prog az T0 k21=true:=by decide+kernel
def atH:bg prog az T0 k25=true:=by decide+kernel
def atI:bg prog az T0 k29=true:=by decide+kernel
def atJ:bg prog az T0 k33=true:=by decide+kernel
def atK:bg prog az T0 k37=true:=by decide+kernel
def atL:bg prog az T0 k41=true:=by decide+kernel
def atM:bg prog az T1 k48=true:=by decide+kernel
def atN:bg prog az T1 k52=true:=by decide+kernel
def atO:bg prog az T1 k56=true:=by decide+kernel
def atP:bg prog az T1 k60=true:=by decide+kernel
def atQ:bg prog az T1 k64=true:=by decide+kernel
def atS:bg prog az T2 k68=true:=by decide+kernel
def atT:bg prog az T2 k72=true:=by decide+kernel
def atU:bg prog az T3 k76=true:=by decide+kernel
def atV:bg prog az T3 k80=true:=by decide+kernel
def atW:bg prog az T4 k84=true:=by decide+kernel
def atX:bg prog az T6 k88=true:=by decide+kernel
end oD
end VE
