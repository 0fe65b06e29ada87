import Derived.Test.YtmacbdacedfedaaGreatDoorUag
set_option linter.all false
set_option maxRecDepth 100000
namespace VE
namespace lZ
def ayb:cw prog aJ T0 k3=true:=by decide+kernel
def ayc:cw prog aJ T0 k6=true:=by decide+kernel
def ayd:cw prog aJ T0 k9=true:=by decide+kernel
def auG:cw prog aJ T1 k15=true:=by decide+kernel
def auH:cw prog aJ T1 k21=true:=by decide+kernel
def auI:cw prog aJ T2 k27=true:=by decide+kernel
def auJ:cw prog aJ T2 k43=true:=by decide+kernel
def auK:cw prog aJ T4 k34=true:=by decide+kernel
def auL:cw prog aJ T5 k46=true:=by decide+kernel
def auM:cw prog aJ T5 k53=true:=by decide+kernel
end lZ
end VE
