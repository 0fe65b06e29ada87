import Derived.Test.YtnilidoboioodaaGreatDoorTak
set_option linter.all false
set_option maxRecDepth 100000
namespace VE
namespace iV
def ak1:bU prog aG T0 k0=true:=by decide+kernel
def ak2:bU prog aG T0 k1=true:=by decide+kernel
def ak3:bU prog aG T0 k4=true:=by decide+kernel
def ak4:bU prog aG T0 k7=true:=by decide+kernel
def aio:bU prog aG T0 Yp=true:=by decide+kernel
def aip:bU prog aG T1 Yv=true:=by decide+kernel
def aiq:bU prog aG T1 YB=true:=by decide+kernel
def air:bU prog aG T2 YJ=true:=by decide+kernel
def ais:bU prog aG T2 YN=true:=by decide+kernel
def ait:bU prog aG T4 YT=true:=by decide+kernel
def aiu:bU prog aG T5 YZ=true:=by decide+kernel
end iV
end VE
