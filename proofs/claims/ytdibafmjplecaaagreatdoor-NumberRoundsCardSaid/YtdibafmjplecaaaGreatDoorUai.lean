import Derived.Test.YtdibafmjplecaaaGreatDoorUag
set_option linter.all false
set_option maxRecDepth 100000
namespace VE
namespace oH
def axu:bj prog az T0 k1=true:=by decide+kernel
def axv:bj prog az T0 k5=true:=by decide+kernel
def axw:bj prog az T0 k9=true:=by decide+kernel
def atN:bj prog az T0 k13=true:=by decide+kernel
def atO:bj prog az T0 k17=true:=by decide+kernel
def atP:bj prog az T0 k22=true:=by decide+kernel
def atQ:bj prog az T0 k26=true:=by decide+kernel
def atS:bj prog az T0 k30=true:=by decide+kernel
def atT:bj prog az T0 k34=true:=by decide+kernel
def atU:bj prog az T0 k38=true:=by decide+kernel
def atV:bj prog az T0 k42=true:=by decide+kernel
def atW:bj prog az T0 k45=true:=by decide+kernel
def atX:bj prog az T1 k49=true:=by decide+kernel
def atY:bj prog az T1 k53=true:=by decide+kernel
def atZ:bj prog az T1 k57=true:=by decide+kernel
def at0:bj prog az T1 k61=true:=by decide+kernel
def at1:bj prog az T1 k65=true:=by decide+kernel
def at2:bj prog az T2 k69=true:=by decide+kernel
def at3:bj prog az T2 k73=true:=by decide+kernel
def at4:bj prog az T3 k77=true:=by decide+kernel
def at5:bj prog az T3 k81=true:=by decide+kernel
def at6:bj prog az T4 k85=true:=by decide+kernel
def at7:bj prog az T7 k89=true:=by decide+kernel
end oH
end VE
