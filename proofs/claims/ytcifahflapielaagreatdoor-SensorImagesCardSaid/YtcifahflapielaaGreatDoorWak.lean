import Derived.Test.YtcifahflapielaaGreatDoorWag
set_option linter.all false
set_option maxRecDepth 100000
namespace VE
namespace lW
def aw8:cD prog aI T0 k3=true:=by decide+kernel
def aw9:cD prog aI T0 k6=true:=by decide+kernel
def axa:cD prog aI T0 k9=true:=by decide+kernel
def as8:cD prog aI T1 k15=true:=by decide+kernel
def as9:cD prog aI T1 k21=true:=by decide+kernel
def ata:cD prog aI T2 k27=true:=by decide+kernel
def atb:cD prog aI T2 k43=true:=by decide+kernel
def atc:cD prog aI T4 k34=true:=by decide+kernel
def atd:cD prog aI T5 k46=true:=by decide+kernel
def ate:cD prog aI T5 k53=true:=by decide+kernel
end lW
end VE
