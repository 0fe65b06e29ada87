import Derived.Test.YtabhmepaflffeaaGreatDoorWag
set_option linter.all false
set_option maxRecDepth 100000
namespace VE
namespace mq
def avy:cy prog aJ T0 k13=true:=by decide+kernel
def avz:cy prog aJ T1 k19=true:=by decide+kernel
def avA:cy prog aJ T2 k25=true:=by decide+kernel
def avB:cy prog aJ T2 k39=true:=by decide+kernel
def avC:cy prog aJ T3 k32=true:=by decide+kernel
def avD:cy prog aJ T5 k50=true:=by decide+kernel
def avF:cy prog aJ T5 k52=true:=by decide+kernel
end mq
end VE
