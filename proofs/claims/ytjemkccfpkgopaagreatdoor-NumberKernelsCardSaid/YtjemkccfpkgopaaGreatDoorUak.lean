import Derived.Test.YtjemkccfpkgopaaGreatDoorUaj
set_option linter.all false
set_option maxRecDepth 100000
namespace VE
namespace pc
def aye:bj prog aD T0 k0=true:=by decide+kernel
def ayf:bj prog aD T0 k4=true:=by decide+kernel
def ayg:bj prog aD T0 k8=true:=by decide+kernel
def aum:bj prog aD T0 k12=true:=by decide+kernel
def aun:bj prog aD T0 CS=true:=by decide+kernel
def auo:bj prog aD T0 k20=true:=by decide+kernel
def aup:bj prog aD T0 k21=true:=by decide+kernel
def auq:bj prog aD T0 k25=true:=by decide+kernel
def aur:bj prog aD T0 k29=true:=by decide+kernel
def aus:bj prog aD T0 k33=true:=by decide+kernel
def aut:bj prog aD T0 k37=true:=by decide+kernel
def auu:bj prog aD T0 k41=true:=by decide+kernel
def auv:bj prog aD T1 k48=true:=by decide+kernel
def auw:bj prog aD T1 k52=true:=by decide+kernel
def auy:bj prog aD T1 k56=true:=by decide+kernel
def auz:bj prog aD T1 k60=true:=by decide+kernel
def auA:bj prog aD T1 k64=true:=by decide+kernel
def auB:bj prog aD T2 k68=true:=by decide+kernel
def auC:bj prog aD T2 k72=true:=by decide+kernel
def auD:bj prog aD T3 k76=true:=by decide+kernel
def auE:bj prog aD T3 k80=true:=by decide+kernel
def auF:bj prog aD T4 k84=true:=by decide+kernel
def auG:bj prog aD T6 k88=true:=by decide+kernel
end pc
end VE
