import Derived.Test.YtnilidoboioodaaGreatDoorTak
set_option linter.all false
set_option maxRecDepth 100000
namespace VE
namespace iV
def ak5:bU prog aG T0 k2=true:=by decide+kernel
def ak6:bU prog aG T0 k5=true:=by decide+kernel
def ak7:bU prog aG T0 k8=true:=by decide+kernel
def aiD:bU prog aG T0 Yr=true:=by decide+kernel
def aiE:bU prog aG T1 Yx=true:=by decide+kernel
def aiF:bU prog aG T1 YD=true:=by decide+kernel
def aiG:bU prog aG T3 YP=true:=by decide+kernel
def aiH:bU prog aG T5 YX=true:=by decide+kernel
def aiI:bU prog aG T5 Y0=true:=by decide+kernel
def aiJ:bU prog aG T5 Y3=true:=by decide+kernel
def aiK:bU prog aG T6 PI=true:=by decide+kernel
end iV
end VE
