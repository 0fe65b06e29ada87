import Derived.Test.YtnilidoboioodaaGreatDoorTak
set_option linter.all false
set_option maxRecDepth 100000
namespace VE
namespace iV
def akY:bU prog aG T0 k3=true:=by decide+kernel
def akZ:bU prog aG T0 k6=true:=by decide+kernel
def ak0:bU prog aG T0 k9=true:=by decide+kernel
def aih:bU prog aG T1 Yu=true:=by decide+kernel
def aii:bU prog aG T1 YA=true:=by decide+kernel
def aij:bU prog aG T2 YG=true:=by decide+kernel
def aik:bU prog aG T2 YM=true:=by decide+kernel
def ail:bU prog aG T4 YS=true:=by decide+kernel
def aim:bU prog aG T5 YY=true:=by decide+kernel
def ain:bU prog aG T5 Y5=true:=by decide+kernel
end iV
end VE
