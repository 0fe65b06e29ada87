import Derived.Test.YtnilidoboioodaaGreatDoorTak
set_option linter.all false
set_option maxRecDepth 100000
namespace VE
namespace iV
def ah9:bU prog aG T0 Ys=true:=by decide+kernel
def aia:bU prog aG T1 Yy=true:=by decide+kernel
def aib:bU prog aG T2 YE=true:=by decide+kernel
def aic:bU prog aG T2 YI=true:=by decide+kernel
def aid:bU prog aG T3 YQ=true:=by decide+kernel
def aie:bU prog aG T5 Y2=true:=by decide+kernel
def aif:bU prog aG T5 Y4=true:=by decide+kernel
end iV
end VE
