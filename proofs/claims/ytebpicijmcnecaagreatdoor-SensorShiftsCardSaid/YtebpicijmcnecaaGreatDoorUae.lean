import Derived.Test.YtebpicijmcnecaaGreatDoorUad
set_option linter.all false
set_option maxRecDepth 100000
set_option maxHeartbeats 4000000
namespace VE
open kD (cc)
noncomputable section
def OK:az:=ao (a:=cc 46) (by conv=>lhs;reduce)
def c49:az:=ao (a:=cc 49) (by conv=>lhs;reduce;simp)
def c50:az:=ao (a:=cc 50) (by conv=>lhs;reduce;simp)
def OL:az:=ao (a:=cc 62) (by conv=>lhs;reduce;simp)
def UT:az:=ao (a:=cc 69) (by conv=>lhs;reduce;simp)
def c70:az:=ao (a:=cc 70) (by conv=>lhs;reduce;simp)
def UU:az:=ao (a:=cc 71) (by conv=>lhs;reduce;simp)
def UW:az:=ao (a:=cc 73) (by conv=>lhs;reduce;simp)
def Ka:az:=ao (a:=cc 74) (by conv=>lhs;reduce;simp)
def c86:az:=ao (a:=cc 86) (by conv=>lhs;reduce;simp)
def OM:az:=ao (a:=cc 98) (by conv=>lhs;reduce;simp)
def SS:az:=ao (a:=cc 99) (by conv=>lhs;reduce;simp)
def pG:VC:=ao (a:=bA SS [0] []) (by conv=>lhs;reduce;simp)
def as9:VC:=ao (a:=bA SS [1] []) (by conv=>lhs;reduce;simp)
def DQ:az:=ao (a:=fun a b=>cw SS [a,b]) (by conv=>lhs;reduce;simp) pG as9
def mq:az:=ao (a:=cc 100) (by conv=>lhs;reduce;simp)
def ni:az:=ao (a:=cc 101) (by conv=>lhs;reduce;simp)
def acQ:az:=ao (a:=cc 102) (by conv=>lhs;reduce;simp)
def acR:az:=ao (a:=cc 107) (by conv=>lhs;reduce)
def acS:az:=ao (a:=cc 108) (by conv=>lhs;reduce;simp)
def abm:az:=ao (a:=cc 110) (by conv=>lhs;reduce;simp)
def EA:VC:=ao (a:=bA abm [0] []) (by conv=>lhs;reduce;simp)
def Nj:az:=ao (a:=fun a=>cw abm [a]) (by conv=>lhs;reduce;simp) EA
def SU:az:=ao (a:=cc 111) (by conv=>lhs;reduce;simp)
def Nk:az:=ao (a:=cc 117) (by conv=>lhs;reduce;simp)
def Dn:az:=ao (a:=cc 118) (by conv=>lhs;reduce;simp)
def c119:az:=ao (a:=cc 119) (by conv=>lhs;reduce;simp)
def acT:az:=ao (a:=cc 122) (by conv=>lhs;reduce;simp)
def abn:az:=ao (a:=cc 123) (by conv=>lhs;reduce;simp)
def apj:VC:=ao (a:=bA abn [0] []) (by conv=>lhs;reduce;simp)
def acU:az:=ao (a:=fun a=>cw abn [a]) (by conv=>lhs;reduce;simp) apj
def acV:az:=ao (a:=cc 124) (by conv=>lhs;reduce;simp)
def abo:az:=ao (a:=cc 125) (by conv=>lhs;reduce;simp)
def apk:VC:=ao (a:=bA abo [0] []) (by conv=>lhs;reduce;simp)
def acW:az:=ao (a:=fun a=>cw abo [a]) (by conv=>lhs;reduce;simp) apk
def acX:az:=ao (a:=cc 129) (by conv=>lhs;reduce;simp)
def abp:az:=ao (a:=cc 130) (by conv=>lhs;reduce;simp)
def HP:VC:=ao (a:=bA abp [0] []) (by conv=>lhs;reduce;simp)
def SV:az:=ao (a:=fun a=>cw abp [a]) (by conv=>lhs;reduce;simp) HP
def IW:az:=ao (a:=cc 136) (by conv=>lhs;reduce;simp)
def ML:az:=ao (a:=cc 137) (by conv=>lhs;reduce;simp)
def HQ:VC:=ao (a:=bA ML [0] []) (by conv=>lhs;reduce;simp)
def HR:VC:=ao (a:=bA ML [1] []) (by conv=>lhs;reduce;simp)
def EB:VC:=ao (a:=bA ML [2] []) (by conv=>lhs;reduce;simp)
def IX:az:=ao (a:=fun a b c=>cw ML [a,b,c]) (by conv=>lhs;reduce;simp) HQ HR EB
def Nl:az:=ao (a:=cc 142) (by conv=>lhs;reduce;simp)
def R7:az:=ao (a:=cc 144) (by conv=>lhs;reduce;simp)
def HS:VC:=ao (a:=bA R7 [0,0] []) (by conv=>lhs;reduce;simp)
def HT:VC:=ao (a:=fun a=>bA R7 [0] [a]) (by conv=>lhs;reduce;simp) HS
def Nn:az:=ao (a:=fun a=>cw R7 [a]) (by conv=>lhs;reduce;simp) HT
def Ag:az:=ao (a:=cc 145) (by conv=>lhs;reduce;simp)
def SW:az:=ao (a:=cc 146) (by conv=>lhs;reduce;simp)
def IY:az:=ao (a:=cc 147) (by conv=>lhs;reduce;simp)
def SX:az:=ao (a:=cc 148) (by conv=>lhs;reduce;simp)
def acY:az:=ao (a:=cc 149) (by conv=>lhs;reduce;simp)
def acZ:az:=ao (a:=cc 151) (by conv=>lhs;reduce;simp)
def abq:az:=ao (a:=cc 155) (by conv=>lhs;reduce;simp)
def CP:VC:=ao (a:=bA abq [0] []) (by conv=>lhs;reduce;simp)
def Dp:az:=ao (a:=fun a=>cw abq [a]) (by conv=>lhs;reduce;simp) CP
def SY:az:=ao (a:=cc 156) (by conv=>lhs;reduce;simp)
def abr:az:=ao (a:=cc 157) (by conv=>lhs;reduce;simp)
def CQ:VC:=ao (a:=bA abr [0] []) (by conv=>lhs;reduce;simp)
def IZ:az:=ao (a:=fun a=>cw abr [a]) (by conv=>lhs;reduce;simp) CQ
def abt:az:=ao (a:=cc 158) (by conv=>lhs;reduce;simp)
def CR:VC:=ao (a:=bA abt [0] []) (by conv=>lhs;reduce;simp)
def E3:az:=ao (a:=fun a=>cw abt [a]) (by conv=>lhs;reduce;simp) CR
def abu:az:=ao (a:=cc 159) (by conv=>lhs;reduce;simp)
def EC:VC:=ao (a:=bA abu [0] []) (by conv=>lhs;reduce;simp)
def No:az:=ao (a:=fun a=>cw abu [a]) (by conv=>lhs;reduce;simp) EC
def abv:az:=ao (a:=cc 160) (by conv=>lhs;reduce;simp)
def apl:VC:=ao (a:=bA abv [0] []) (by conv=>lhs;reduce;simp)
def ac0:az:=ao (a:=fun a=>cw abv [a]) (by conv=>lhs;reduce;simp) apl
def Np:az:=ao (a:=cc 163) (by conv=>lhs;reduce;simp)
def mr:az:=ao (a:=cc 164) (by conv=>lhs;reduce;simp)
def R8:az:=ao (a:=cc 165) (by conv=>lhs;reduce;simp)
def Bg:VC:=ao (a:=bA R8 [0] []) (by conv=>lhs;reduce;simp)
def Bh:VC:=ao (a:=bA R8 [1] []) (by conv=>lhs;reduce;simp)
def I0:az:=ao (a:=fun a b=>cw R8 [a,b]) (by conv=>lhs;reduce;simp) Bg Bh
def abw:az:=ao (a:=cc 166) (by conv=>lhs;reduce;simp)
def CS:VC:=ao (a:=bA abw [0] []) (by conv=>lhs;reduce;simp)
def BD:az:=ao (a:=fun a=>cw abw [a]) (by conv=>lhs;reduce) CS
def abx:az:=ao (a:=cc 168) (by conv=>lhs;reduce;simp)
def ED:VC:=ao (a:=bA abx [0] []) (by conv=>lhs;reduce;simp)
def Nq:az:=ao (a:=fun a=>cw abx [a]) (by conv=>lhs;reduce;simp) ED
def MM:az:=ao (a:=cc 169) (by conv=>lhs;reduce;simp)
def zK:VC:=ao (a:=bA MM [0] []) (by conv=>lhs;reduce;simp)
def HU:VC:=ao (a:=bA MM [1] []) (by conv=>lhs;reduce;simp)
def HV:VC:=ao (a:=bA MM [2] []) (by conv=>lhs;reduce;simp)
def sq:az:=ao (a:=fun a b c=>cw MM [a,b,c]) (by conv=>lhs;reduce;simp) zK HU HV
def ac1:az:=ao (a:=cc 172) (by conv=>lhs;reduce;simp)
end
end VE
