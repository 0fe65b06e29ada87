import Derived.Test.YtnilidoboioodaaGreatDoorTak
set_option linter.all false
set_option maxRecDepth 100000
namespace VE
namespace iV
def aiv:bU prog aG T0 Yq=true:=by decide+kernel
def aiw:bU prog aG T1 Yw=true:=by decide+kernel
def aix:bU prog aG T1 YC=true:=by decide+kernel
def aiy:bU prog aG T2 YL=true:=by decide+kernel
def aiz:bU prog aG T3 YO=true:=by decide+kernel
def aiA:bU prog aG T4 YU=true:=by decide+kernel
def aiB:bU prog aG T5 YW=true:=by decide+kernel
def aiC:bU prog aG T5 Y1=true:=by decide+kernel
end iV
end VE
