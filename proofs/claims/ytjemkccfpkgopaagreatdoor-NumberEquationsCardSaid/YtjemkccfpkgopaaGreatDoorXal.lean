import Derived.Test.YtjemkccfpkgopaaGreatDoorXai
set_option linter.all false
set_option maxRecDepth 100000
namespace VE
namespace pR
def azo:bl prog aE T0 k2=true:=by decide+kernel
def azp:bl prog aE T0 k6=true:=by decide+kernel
def awh:bl prog aE T0 k10=true:=by decide+kernel
def awi:bl prog aE T0 k14=true:=by decide+kernel
def awj:bl prog aE T0 k18=true:=by decide+kernel
def awk:bl prog aE T0 k23=true:=by decide+kernel
def awl:bl prog aE T0 k27=true:=by decide+kernel
def awm:bl prog aE T0 k31=true:=by decide+kernel
def awn:bl prog aE T0 k35=true:=by decide+kernel
def awo:bl prog aE T0 k39=true:=by decide+kernel
def awp:bl prog aE T0 k43=true:=by decide+kernel
def awq:bl prog aE T0 k46=true:=by decide+kernel
def awr:bl prog aE T1 k50=true:=by decide+kernel
def aws:bl prog aE T1 k54=true:=by decide+kernel
def awt:bl prog aE T1 k58=true:=by decide+kernel
def awu:bl prog aE T1 k62=true:=by decide+kernel
def awv:bl prog aE T1 k66=true:=by decide+kernel
def aww:bl prog aE T2 k70=true:=by decide+kernel
def awx:bl prog aE T2 k74=true:=by decide+kernel
def awy:bl prog aE T3 k78=true:=by decide+kernel
def awz:bl prog aE T4 k82=true:=by decide+kernel
def awA:bl prog aE T5 k86=true:=by decide+kernel
def awB:bl prog aE T8 k90=true:=by decide+kernel
end pR
end VE
