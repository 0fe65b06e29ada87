import Derived.Test.YtabhmepaflffeaaGreatDoorXag
set_option linter.all false
set_option maxRecDepth 100000
namespace VE
namespace mH
def az4:cz prog aK T0 k2=true:=by decide+kernel
def az5:cz prog aK T0 k5=true:=by decide+kernel
def az6:cz prog aK T0 k8=true:=by decide+kernel
def awO:cz prog aK T0 NS=true:=by decide+kernel
def awP:cz prog aK T1 k18=true:=by decide+kernel
def awQ:cz prog aK T1 k24=true:=by decide+kernel
def awR:cz prog aK T3 k31=true:=by decide+kernel
def awS:cz prog aK T5 k45=true:=by decide+kernel
def awT:cz prog aK T5 k48=true:=by decide+kernel
def awU:cz prog aK T5 k51=true:=by decide+kernel
def awV:cz prog aK T6 k38=true:=by decide+kernel
end mH
end VE
