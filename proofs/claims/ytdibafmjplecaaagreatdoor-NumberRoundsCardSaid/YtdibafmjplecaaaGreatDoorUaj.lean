import Derived.Test.YtdibafmjplecaaaGreatDoorUag
set_option linter.all false
set_option maxRecDepth 100000
namespace VE
namespace oH
def axx:bj prog az T0 k2=true:=by decide+kernel
def axy:bj prog az T0 k6=true:=by decide+kernel
def aua:bj prog az T0 k10=true:=by decide+kernel
def aub:bj prog az T0 k14=true:=by decide+kernel
def auc:bj prog az T0 k18=true:=by decide+kernel
def aud:bj prog az T0 k23=true:=by decide+kernel
def aue:bj prog az T0 k27=true:=by decide+kernel
def auf:bj prog az T0 k31=true:=by decide+kernel
def aug:bj prog az T0 k35=true:=by decide+kernel
def auh:bj prog az T0 k39=true:=by decide+kernel
def aui:bj prog az T0 k43=true:=by decide+kernel
def auj:bj prog az T0 k46=true:=by decide+kernel
def auk:bj prog az T1 k50=true:=by decide+kernel
def aul:bj prog az T1 k54=true:=by decide+kernel
def aum:bj prog az T1 k58=true:=by decide+kernel
def aun:bj prog az T1 k62=true:=by decide+kernel
def auo:bj prog az T1 k66=true:=by decide+kernel
def aup:bj prog az T2 k70=true:=by decide+kernel
def auq:bj prog az T2 k74=true:=by decide+kernel
def aur:bj prog az T3 k78=true:=by decide+kernel
def aus:bj prog az T4 k82=true:=by decide+kernel
def aut:bj prog az T5 k86=true:=by decide+kernel
def auu:bj prog az T8 k90=true:=by decide+kernel
end oH
end VE
