import Derived.Test.YtabhmepaflffeaaGreatDoorWag
set_option linter.all false
set_option maxRecDepth 100000
namespace VE
namespace mq
def azh:cy prog aJ T0 k0=true:=by decide+kernel
def azi:cy prog aJ T0 k1=true:=by decide+kernel
def azj:cy prog aJ T0 k4=true:=by decide+kernel
def azk:cy prog aJ T0 k7=true:=by decide+kernel
def avN:cy prog aJ T0 k10=true:=by decide+kernel
def avO:cy prog aJ T1 k16=true:=by decide+kernel
def avP:cy prog aJ T1 k22=true:=by decide+kernel
def avQ:cy prog aJ T2 k40=true:=by decide+kernel
def avR:cy prog aJ T2 k29=true:=by decide+kernel
def avS:cy prog aJ T4 k35=true:=by decide+kernel
def avT:cy prog aJ T5 k47=true:=by decide+kernel
end mq
end VE
