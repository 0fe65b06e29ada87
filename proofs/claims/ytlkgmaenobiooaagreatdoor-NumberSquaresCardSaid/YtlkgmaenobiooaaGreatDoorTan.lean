import Derived.Test.YtlkgmaenobiooaaGreatDoorTak
set_option linter.all false
set_option maxRecDepth 100000
namespace VE
namespace ml
def aB0:bm prog aE T0 k2=true:=by decide+kernel
def aB1:bm prog aE T0 k6=true:=by decide+kernel
def ayY:bm prog aE T0 k10=true:=by decide+kernel
def ayZ:bm prog aE T0 k14=true:=by decide+kernel
def ay0:bm prog aE T0 k18=true:=by decide+kernel
def ay1:bm prog aE T0 k23=true:=by decide+kernel
def ay2:bm prog aE T0 k27=true:=by decide+kernel
def ay3:bm prog aE T0 k31=true:=by decide+kernel
def ay4:bm prog aE T0 k35=true:=by decide+kernel
def ay5:bm prog aE T0 k39=true:=by decide+kernel
def ay6:bm prog aE T0 k43=true:=by decide+kernel
def ay7:bm prog aE T0 k46=true:=by decide+kernel
def ay8:bm prog aE T1 k50=true:=by decide+kernel
def ay9:bm prog aE T1 k54=true:=by decide+kernel
def aza:bm prog aE T1 k58=true:=by decide+kernel
def azb:bm prog aE T1 k62=true:=by decide+kernel
def azc:bm prog aE T1 k66=true:=by decide+kernel
def azd:bm prog aE T2 k70=true:=by decide+kernel
def aze:bm prog aE T2 k74=true:=by decide+kernel
def azf:bm prog aE T3 k78=true:=by decide+kernel
def azg:bm prog aE T4 k82=true:=by decide+kernel
def azh:bm prog aE T5 k86=true:=by decide+kernel
def azi:bm prog aE T8 k90=true:=by decide+kernel
end ml
end VE
