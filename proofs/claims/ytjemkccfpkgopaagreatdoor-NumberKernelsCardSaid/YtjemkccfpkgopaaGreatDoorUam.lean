import Derived.Test.YtjemkccfpkgopaaGreatDoorUaj
set_option linter.all false
set_option maxRecDepth 100000
namespace VE
namespace pc
def ayk:bj prog aD T0 k2=true:=by decide+kernel
def ayl:bj prog aD T0 k6=true:=by decide+kernel
def au1:bj prog aD T0 k10=true:=by decide+kernel
def au2:bj prog aD T0 k14=true:=by decide+kernel
def au3:bj prog aD T0 k18=true:=by decide+kernel
def au4:bj prog aD T0 k23=true:=by decide+kernel
def au5:bj prog aD T0 k27=true:=by decide+kernel
def au6:bj prog aD T0 k31=true:=by decide+kernel
def au7:bj prog aD T0 k35=true:=by decide+kernel
def au8:bj prog aD T0 k39=true:=by decide+kernel
def au9:bj prog aD T0 k43=true:=by decide+kernel
def ava:bj prog aD T0 k46=true:=by decide+kernel
def avb:bj prog aD T1 k50=true:=by decide+kernel
def avc:bj prog aD T1 k54=true:=by decide+kernel
def avd:bj prog aD T1 k58=true:=by decide+kernel
def ave:bj prog aD T1 k62=true:=by decide+kernel
def avf:bj prog aD T1 k66=true:=by decide+kernel
def avg:bj prog aD T2 k70=true:=by decide+kernel
def avh:bj prog aD T2 k74=true:=by decide+kernel
def avi:bj prog aD T3 k78=true:=by decide+kernel
def avj:bj prog aD T4 k82=true:=by decide+kernel
def avk:bj prog aD T5 k86=true:=by decide+kernel
def avl:bj prog aD T8 k90=true:=by decide+kernel
end pc
end VE
