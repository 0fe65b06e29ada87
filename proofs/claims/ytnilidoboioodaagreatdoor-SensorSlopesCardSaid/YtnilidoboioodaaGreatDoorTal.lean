import Derived.Test.YtnilidoboioodaaGreatDoorTak
set_option linter.all false
set_option maxRecDepth 100000
namespace VE
namespace iV
def ah2:bU prog aG T5 YV=true:=by decide+kernel
end iV
end VE
