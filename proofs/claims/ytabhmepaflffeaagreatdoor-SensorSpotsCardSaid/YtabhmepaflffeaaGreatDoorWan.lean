import Derived.Test.YtabhmepaflffeaaGreatDoorWag
set_option linter.all false
set_option maxRecDepth 100000
namespace VE
namespace mq
def azl:cy prog aJ T0 k2=true:=by decide+kernel
def azm:cy prog aJ T0 k5=true:=by decide+kernel
def azn:cy prog aJ T0 k8=true:=by decide+kernel
def av2:cy prog aJ T0 k12=true:=by decide+kernel
def av3:cy prog aJ T1 k18=true:=by decide+kernel
def av4:cy prog aJ T1 k24=true:=by decide+kernel
def av5:cy prog aJ T3 k31=true:=by decide+kernel
def av6:cy prog aJ T5 k45=true:=by decide+kernel
def av7:cy prog aJ T5 k48=true:=by decide+kernel
def av8:cy prog aJ T5 k51=true:=by decide+kernel
def av9:cy prog aJ T6 ZT=true:=by decide+kernel
end mq
end VE
