import Derived.Test.YtebpicijmcnecaaGreatDoorUag
set_option linter.all false
set_option maxRecDepth 100000
namespace VE
namespace kE
def ath:bW prog aG T0 k2=true:=by decide+kernel
def ati:bW prog aG T0 k5=true:=by decide+kernel
def atj:bW prog aG T0 k8=true:=by decide+kernel
def ap4:bW prog aG T0 k12=true:=by decide+kernel
def ap5:bW prog aG T1 k18=true:=by decide+kernel
def ap6:bW prog aG T1 k24=true:=by decide+kernel
def ap7:bW prog aG T3 k31=true:=by decide+kernel
def ap8:bW prog aG T5 k45=true:=by decide+kernel
def ap9:bW prog aG T5 k48=true:=by decide+kernel
def aqa:bW prog aG T5 k51=true:=by decide+kernel
def aqb:bW prog aG T6 U9=true:=by decide+kernel
end kE
end VE
