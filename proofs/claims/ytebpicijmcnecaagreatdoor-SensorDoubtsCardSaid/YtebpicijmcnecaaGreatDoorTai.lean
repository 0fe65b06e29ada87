import Derived.Test.YtebpicijmcnecaaGreatDoorTag
set_option linter.all false
set_option maxRecDepth 100000
namespace VE
namespace lP
def atc:cw prog aI T1 k14=true:=by decide+kernel
def atd:cw prog aI T1 k20=true:=by decide+kernel
def ate:cw prog aI T2 k26=true:=by decide+kernel
def atf:cw prog aI T2 k28=true:=by decide+kernel
def atg:cw prog aI T2 k41=true:=by decide+kernel
def ath:cw prog aI T3 k33=true:=by decide+kernel
end lP
end VE
