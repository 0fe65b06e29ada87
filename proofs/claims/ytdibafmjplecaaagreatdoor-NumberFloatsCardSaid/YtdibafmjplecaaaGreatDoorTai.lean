import Derived.Test.YtdibafmjplecaaaGreatDoorTag
set_option linter.all false
set_option maxRecDepth 100000
namespace VE
namespace oD
def axF:bg prog az T0 k1=true:=by decide+kernel
def axG:bg prog az T0 k5=true:=by decide+kernel
def axH:bg prog az T0 k9=true:=by decide+kernel
def atY:bg prog az T0 k13=true:=by decide+kernel
def atZ:bg prog az T0 k17=true:=by decide+kernel
def at0:bg prog az T0 k22=true:=by decide+kernel
def at1:bg prog az T0 k26=true:=by decide+kernel
def at2:bg prog az T0 k30=true:=by decide+kernel
def at3:bg prog az T0 k34=true:=by decide+kernel
def at4:bg prog az T0 k38=true:=by decide+kernel
def at5:bg prog az T0 k42=true:=by decide+kernel
def at6:bg prog az T0 k45=true:=by decide+kernel
def at7:bg prog az T1 k49=true:=by decide+kernel
def aua:bg prog az T1 k53=true:=by decide+kernel
def aub:bg prog az T1 k57=true:=by decide+kernel
def auc:bg prog az T1 k61=true:=by decide+kernel
def aud:bg prog az T1 k65=true:=by decide+kernel
def aue:bg prog az T2 k69=true:=by decide+kernel
def auf:bg prog az T2 k73=true:=by decide+kernel
def aug:bg prog az T3 k77=true:=by decide+kernel
def auh:bg prog az T3 k81=true:=by decide+kernel
def aui:bg prog az T4 k85=true:=by decide+kernel
def auj:bg prog az T7 k89=true:=by decide+kernel
end oD
end VE
