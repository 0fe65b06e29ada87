import Derived.Test.YtabhmepaflffeaaGreatDoorWag
set_option linter.all false
set_option maxRecDepth 100000
namespace VE
namespace mq
def avr:cy prog aJ T1 k14=true:=by decide+kernel
def avt:cy prog aJ T1 k20=true:=by decide+kernel
def avu:cy prog aJ T2 k26=true:=by decide+kernel
def avv:cy prog aJ T2 k28=true:=by decide+kernel
def avw:cy prog aJ T2 k41=true:=by decide+kernel
def avx:cy prog aJ T3 k33=true:=by decide+kernel
end mq
end VE
