import Derived.Test.YtnilidoboioodaaGreatDoorTak
set_option linter.all false
set_option maxRecDepth 100000
namespace VE
namespace iV
def ah3:bU prog aG T1 Yt=true:=by decide+kernel
def ah4:bU prog aG T1 Yz=true:=by decide+kernel
def ah5:bU prog aG T2 YF=true:=by decide+kernel
def ah6:bU prog aG T2 YH=true:=by decide+kernel
def ah7:bU prog aG T2 YK=true:=by decide+kernel
def ah8:bU prog aG T3 YR=true:=by decide+kernel
end iV
end VE
