import Derived.Test.YtebpicijmcnecaaGreatDoorUag
set_option linter.all false
set_option maxRecDepth 100000
namespace VE
namespace kE
def atd:bW prog aG T0 k0=true:=by decide+kernel
def ate:bW prog aG T0 k1=true:=by decide+kernel
def atf:bW prog aG T0 k4=true:=by decide+kernel
def atg:bW prog aG T0 k7=true:=by decide+kernel
def apP:bW prog aG T0 k10=true:=by decide+kernel
def apQ:bW prog aG T1 k16=true:=by decide+kernel
def apR:bW prog aG T1 k22=true:=by decide+kernel
def apS:bW prog aG T2 k40=true:=by decide+kernel
def apT:bW prog aG T2 k29=true:=by decide+kernel
def apU:bW prog aG T4 k35=true:=by decide+kernel
def apV:bW prog aG T5 k47=true:=by decide+kernel
end kE
end VE
