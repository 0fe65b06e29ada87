import Derived.Test.YtabhmepaflffeaaGreatDoorXag
set_option linter.all false
set_option maxRecDepth 100000
namespace VE
namespace mH
def azX:cz prog aK T0 k3=true:=by decide+kernel
def azY:cz prog aK T0 k6=true:=by decide+kernel
def azZ:cz prog aK T0 k9=true:=by decide+kernel
def aws:cz prog aK T1 k15=true:=by decide+kernel
def awt:cz prog aK T1 k21=true:=by decide+kernel
def awu:cz prog aK T2 k27=true:=by decide+kernel
def awv:cz prog aK T2 k43=true:=by decide+kernel
def aww:cz prog aK T4 k34=true:=by decide+kernel
def awx:cz prog aK T5 k46=true:=by decide+kernel
def awy:cz prog aK T5 k53=true:=by decide+kernel
end mH
end VE
