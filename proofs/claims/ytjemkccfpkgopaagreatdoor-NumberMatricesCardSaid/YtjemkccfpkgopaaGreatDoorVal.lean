import Derived.Test.YtjemkccfpkgopaaGreatDoorVai
set_option linter.all false
set_option maxRecDepth 100000
namespace VE
namespace p7
def az0:bt prog aE T0 k2=true:=by decide+kernel
def az1:bt prog aE T0 k6=true:=by decide+kernel
def awN:bt prog aE T0 k10=true:=by decide+kernel
def awO:bt prog aE T0 k14=true:=by decide+kernel
def awP:bt prog aE T0 k18=true:=by decide+kernel
def awQ:bt prog aE T0 k23=true:=by decide+kernel
def awR:bt prog aE T0 k27=true:=by decide+kernel
def awS:bt prog aE T0 k31=true:=by decide+kernel
def awT:bt prog aE T0 k35=true:=by decide+kernel
def awU:bt prog aE T0 k39=true:=by decide+kernel
def awV:bt prog aE T0 k43=true:=by decide+kernel
def awW:bt prog aE T0 k46=true:=by decide+kernel
def awX:bt prog aE T1 k50=true:=by decide+kernel
def awY:bt prog aE T1 k54=true:=by decide+kernel
def awZ:bt prog aE T1 k58=true:=by decide+kernel
def aw0:bt prog aE T1 k62=true:=by decide+kernel
def aw1:bt prog aE T1 k66=true:=by decide+kernel
def aw2:bt prog aE T2 k70=true:=by decide+kernel
def aw3:bt prog aE T2 k74=true:=by decide+kernel
def aw4:bt prog aE T3 k78=true:=by decide+kernel
def aw5:bt prog aE T4 k82=true:=by decide+kernel
def aw6:bt prog aE T5 k86=true:=by decide+kernel
def aw7:bt prog aE T8 k90=true:=by decide+kernel
end p7
end VE
