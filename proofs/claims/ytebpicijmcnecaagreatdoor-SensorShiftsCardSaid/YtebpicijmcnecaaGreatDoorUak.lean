import Derived.Test.YtebpicijmcnecaaGreatDoorUag
set_option linter.all false
set_option maxRecDepth 100000
namespace VE
namespace kE
def ata:bW prog aG T0 k3=true:=by decide+kernel
def atb:bW prog aG T0 k6=true:=by decide+kernel
def atc:bW prog aG T0 k9=true:=by decide+kernel
def apI:bW prog aG T1 k15=true:=by decide+kernel
def apJ:bW prog aG T1 k21=true:=by decide+kernel
def apK:bW prog aG T2 k27=true:=by decide+kernel
def apL:bW prog aG T2 k43=true:=by decide+kernel
def apM:bW prog aG T4 k34=true:=by decide+kernel
def apN:bW prog aG T5 k46=true:=by decide+kernel
def apO:bW prog aG T5 k53=true:=by decide+kernel
end kE
end VE
