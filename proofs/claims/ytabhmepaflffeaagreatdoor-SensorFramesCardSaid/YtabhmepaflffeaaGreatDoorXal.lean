import Derived.Test.YtabhmepaflffeaaGreatDoorXag
set_option linter.all false
set_option maxRecDepth 100000
namespace VE
namespace mH
def az0:cz prog aK T0 k0=true:=by decide+kernel
def az1:cz prog aK T0 k1=true:=by decide+kernel
def az2:cz prog aK T0 k4=true:=by decide+kernel
def az3:cz prog aK T0 k7=true:=by decide+kernel
def awz:cz prog aK T0 k10=true:=by decide+kernel
def awA:cz prog aK T1 k16=true:=by decide+kernel
def awB:cz prog aK T1 k22=true:=by decide+kernel
def awC:cz prog aK T2 k40=true:=by decide+kernel
def awD:cz prog aK T2 k29=true:=by decide+kernel
def awE:cz prog aK T4 k35=true:=by decide+kernel
def awF:cz prog aK T5 k47=true:=by decide+kernel
end mH
end VE
