import Derived.Test.YtabhmepaflffeaaGreatDoorWag
set_option linter.all false
set_option maxRecDepth 100000
namespace VE
namespace mq
def aze:cy prog aJ T0 k3=true:=by decide+kernel
def azf:cy prog aJ T0 k6=true:=by decide+kernel
def azg:cy prog aJ T0 k9=true:=by decide+kernel
def avG:cy prog aJ T1 k15=true:=by decide+kernel
def avH:cy prog aJ T1 k21=true:=by decide+kernel
def avI:cy prog aJ T2 k27=true:=by decide+kernel
def avJ:cy prog aJ T2 k43=true:=by decide+kernel
def avK:cy prog aJ T4 k34=true:=by decide+kernel
def avL:cy prog aJ T5 k46=true:=by decide+kernel
def avM:cy prog aJ T5 k53=true:=by decide+kernel
end mq
end VE
