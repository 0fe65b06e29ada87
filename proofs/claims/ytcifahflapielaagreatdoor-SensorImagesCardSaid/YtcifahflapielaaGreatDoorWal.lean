import Derived.Test.YtcifahflapielaaGreatDoorWag
set_option linter.all false
set_option maxRecDepth 100000
namespace VE
namespace lW
def axb:cD prog aI T0 k0=true:=by decide+kernel
def axc:cD prog aI T0 k1=true:=by decide+kernel
def axd:cD prog aI T0 k4=true:=by decide+kernel
def axe:cD prog aI T0 k7=true:=by decide+kernel
def atf:cD prog aI T0 k10=true:=by decide+kernel
def atg:cD prog aI T1 k16=true:=by decide+kernel
def ath:cD prog aI T1 k22=true:=by decide+kernel
def ati:cD prog aI T2 k40=true:=by decide+kernel
def atj:cD prog aI T2 k29=true:=by decide+kernel
def atk:cD prog aI T4 k35=true:=by decide+kernel
def atl:cD prog aI T5 k47=true:=by decide+kernel
end lW
end VE
