import Derived.Test.YtebpicijmcnecaaGreatDoorUag
set_option linter.all false
set_option maxRecDepth 100000
namespace VE
namespace kE
def apW:bW prog aG T0 k11=true:=by decide+kernel
def apX:bW prog aG T1 k17=true:=by decide+kernel
def apY:bW prog aG T1 k23=true:=by decide+kernel
def apZ:bW prog aG T2 k42=true:=by decide+kernel
def ap0:bW prog aG T3 k30=true:=by decide+kernel
def ap1:bW prog aG T4 k36=true:=by decide+kernel
def ap2:bW prog aG T5 k44=true:=by decide+kernel
def ap3:bW prog aG T5 k49=true:=by decide+kernel
end kE
end VE
