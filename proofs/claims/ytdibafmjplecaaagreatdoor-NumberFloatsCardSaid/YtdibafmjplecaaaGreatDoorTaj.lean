import Derived.Test.YtdibafmjplecaaaGreatDoorTag
set_option linter.all false
set_option maxRecDepth 100000
namespace VE
namespace oD
def axI:bg prog az T0 k2=true:=by decide+kernel
def axJ:bg prog az T0 k6=true:=by decide+kernel
def auk:bg prog az T0 k10=true:=by decide+kernel
def aul:bg prog az T0 k14=true:=by decide+kernel
def aum:bg prog az T0 k18=true:=by decide+kernel
def aun:bg prog az T0 k23=true:=by decide+kernel
def auo:bg prog az T0 k27=true:=by decide+kernel
def aup:bg prog az T0 k31=true:=by decide+kernel
def auq:bg prog az T0 k35=true:=by decide+kernel
def aur:bg prog az T0 k39=true:=by decide+kernel
def aus:bg prog az T0 k43=true:=by decide+kernel
def aut:bg prog az T0 k46=true:=by decide+kernel
def auu:bg prog az T1 k50=true:=by decide+kernel
def auv:bg prog az T1 k54=true:=by decide+kernel
def auw:bg prog az T1 k58=true:=by decide+kernel
def auy:bg prog az T1 k62=true:=by decide+kernel
def auz:bg prog az T1 k66=true:=by decide+kernel
def auA:bg prog az T2 k70=true:=by decide+kernel
def auB:bg prog az T2 k74=true:=by decide+kernel
def auC:bg prog az T3 k78=true:=by decide+kernel
def auD:bg prog az T4 k82=true:=by decide+kernel
def auE:bg prog az T5 k86=true:=by decide+kernel
def auF:bg prog az T8 k90=true:=by decide+kernel
end oD
end VE
