import Derived.Test.YtjemkccfpkgopaaGreatDoorWai
set_option linter.all false
set_option maxRecDepth 100000
namespace VE
namespace p6
def az1:bm prog aC T0 k2=true:=by decide+kernel
def az2:bm prog aC T0 k6=true:=by decide+kernel
def awS:bm prog aC T0 k10=true:=by decide+kernel
def awT:bm prog aC T0 k14=true:=by decide+kernel
def awU:bm prog aC T0 k18=true:=by decide+kernel
def awV:bm prog aC T0 k23=true:=by decide+kernel
def awW:bm prog aC T0 k27=true:=by decide+kernel
def awX:bm prog aC T0 k31=true:=by decide+kernel
def awY:bm prog aC T0 k35=true:=by decide+kernel
def awZ:bm prog aC T0 k39=true:=by decide+kernel
def aw0:bm prog aC T0 k43=true:=by decide+kernel
def aw1:bm prog aC T0 k46=true:=by decide+kernel
def aw2:bm prog aC T1 k50=true:=by decide+kernel
def aw3:bm prog aC T1 k54=true:=by decide+kernel
def aw4:bm prog aC T1 k58=true:=by decide+kernel
def aw5:bm prog aC T1 k62=true:=by decide+kernel
def aw6:bm prog aC T1 k66=true:=by decide+kernel
def aw7:bm prog aC T2 k70=true:=by decide+kernel
def aw8:bm prog aC T2 k74=true:=by decide+kernel
def aw9:bm prog aC T3 k78=true:=by decide+kernel
def axa:bm prog aC T4 k82=true:=by decide+kernel
def axb:bm prog aC T5 k86=true:=by decide+kernel
def axc:bm prog aC T8 k90=true:=by decide+kernel
end p6
end VE
