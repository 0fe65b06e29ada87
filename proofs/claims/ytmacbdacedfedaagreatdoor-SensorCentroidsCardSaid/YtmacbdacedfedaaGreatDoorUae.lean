import Derived.Test.YtmacbdacedfedaaGreatDoorUad
set_option linter.all false
set_option maxRecDepth 100000
set_option maxHeartbeats 4000000
namespace VE
open lY (cc)
noncomputable section
def ahw:az:=ao (a:=cc 29) (by conv=>lhs;reduce;simp)
def Lx:VC:=ao (a:=bG ahw [0] []) (by conv=>lhs;reduce;simp)
def SC:az:=ao (a:=fun a=>cy ahw [a]) (by conv=>lhs;reduce;simp) Lx
def SD:az:=ao (a:=cc 46) (by conv=>lhs;reduce)
def c49:az:=ao (a:=cc 49) (by conv=>lhs;reduce;simp)
def Y7:az:=ao (a:=cc 50) (by conv=>lhs;reduce;simp)
def SE:az:=ao (a:=cc 62) (by conv=>lhs;reduce;simp)
def Y8:az:=ao (a:=cc 69) (by conv=>lhs;reduce;simp)
def Y9:az:=ao (a:=cc 70) (by conv=>lhs;reduce;simp)
def c71:az:=ao (a:=cc 71) (by conv=>lhs;reduce;simp)
def Za:az:=ao (a:=cc 73) (by conv=>lhs;reduce;simp)
def Nf:az:=ao (a:=cc 74) (by conv=>lhs;reduce;simp)
def fE:az:=ao (a:=cc 86) (by conv=>lhs;reduce;simp)
def SF:az:=ao (a:=cc 98) (by conv=>lhs;reduce;simp)
def Xb:az:=ao (a:=cc 99) (by conv=>lhs;reduce;simp)
def rz:VC:=ao (a:=bG Xb [0] []) (by conv=>lhs;reduce;simp)
def aya:VC:=ao (a:=bG Xb [1] []) (by conv=>lhs;reduce;simp)
def F1:az:=ao (a:=fun a b=>cy Xb [a,b]) (by conv=>lhs;reduce;simp) rz aya
def nK:az:=ao (a:=cc 100) (by conv=>lhs;reduce;simp)
def oI:az:=ao (a:=cc 101) (by conv=>lhs;reduce;simp)
def Xc:az:=ao (a:=cc 102) (by conv=>lhs;reduce;simp)
def QN:az:=ao (a:=cc 107) (by conv=>lhs;reduce)
def Xd:az:=ao (a:=cc 108) (by conv=>lhs;reduce;simp)
def afO:az:=ao (a:=cc 110) (by conv=>lhs;reduce;simp)
def GY:VC:=ao (a:=bG afO [0] []) (by conv=>lhs;reduce;simp)
def QO:az:=ao (a:=fun a=>cy afO [a]) (by conv=>lhs;reduce;simp) GY
def Xe:az:=ao (a:=cc 111) (by conv=>lhs;reduce;simp)
def QP:az:=ao (a:=cc 117) (by conv=>lhs;reduce;simp)
def Fh:az:=ao (a:=cc 118) (by conv=>lhs;reduce;simp)
def c119:az:=ao (a:=cc 119) (by conv=>lhs;reduce;simp)
def LO:az:=ao (a:=cc 122) (by conv=>lhs;reduce;simp)
def afP:az:=ao (a:=cc 123) (by conv=>lhs;reduce;simp)
def KG:VC:=ao (a:=bG afP [0] []) (by conv=>lhs;reduce;simp)
def LP:az:=ao (a:=fun a=>cy afP [a]) (by conv=>lhs;reduce;simp) KG
def Hy:az:=ao (a:=cc 124) (by conv=>lhs;reduce;simp)
def afQ:az:=ao (a:=cc 125) (by conv=>lhs;reduce;simp)
def PH:VC:=ao (a:=bG afQ [0] []) (by conv=>lhs;reduce;simp)
def QQ:az:=ao (a:=fun a=>cy afQ [a]) (by conv=>lhs;reduce;simp) PH
def Hz:az:=ao (a:=cc 129) (by conv=>lhs;reduce;simp)
def afR:az:=ao (a:=cc 130) (by conv=>lhs;reduce;simp)
def KH:VC:=ao (a:=bG afR [0] []) (by conv=>lhs;reduce;simp)
def Xf:az:=ao (a:=fun a=>cy afR [a]) (by conv=>lhs;reduce;simp) KH
def LQ:az:=ao (a:=cc 136) (by conv=>lhs;reduce;simp)
def Qd:az:=ao (a:=cc 137) (by conv=>lhs;reduce;simp)
def KI:VC:=ao (a:=bG Qd [0] []) (by conv=>lhs;reduce;simp)
def KJ:VC:=ao (a:=bG Qd [1] []) (by conv=>lhs;reduce;simp)
def GZ:VC:=ao (a:=bG Qd [2] []) (by conv=>lhs;reduce;simp)
def LR:az:=ao (a:=fun a b c=>cy Qd [a,b,c]) (by conv=>lhs;reduce;simp) KI KJ GZ
def QR:az:=ao (a:=cc 142) (by conv=>lhs;reduce;simp)
def Wg:az:=ao (a:=cc 144) (by conv=>lhs;reduce;simp)
def KK:VC:=ao (a:=bG Wg [0,0] []) (by conv=>lhs;reduce;simp)
def KL:VC:=ao (a:=fun a=>bG Wg [0] [a]) (by conv=>lhs;reduce;simp) KK
def QS:az:=ao (a:=fun a=>cy Wg [a]) (by conv=>lhs;reduce;simp) KL
def BK:az:=ao (a:=cc 145) (by conv=>lhs;reduce;simp)
def Xg:az:=ao (a:=cc 146) (by conv=>lhs;reduce;simp)
def LS:az:=ao (a:=cc 147) (by conv=>lhs;reduce;simp)
def Xh:az:=ao (a:=cc 148) (by conv=>lhs;reduce;simp)
def ahx:az:=ao (a:=cc 149) (by conv=>lhs;reduce;simp)
def QT:az:=ao (a:=cc 151) (by conv=>lhs;reduce;simp)
def afS:az:=ao (a:=cc 155) (by conv=>lhs;reduce;simp)
def EC:VC:=ao (a:=bG afS [0] []) (by conv=>lhs;reduce;simp)
def Fi:az:=ao (a:=fun a=>cy afS [a]) (by conv=>lhs;reduce;simp) EC
def Xi:az:=ao (a:=cc 156) (by conv=>lhs;reduce;simp)
def afT:az:=ao (a:=cc 157) (by conv=>lhs;reduce;simp)
def ED:VC:=ao (a:=bG afT [0] []) (by conv=>lhs;reduce;simp)
def LU:az:=ao (a:=fun a=>cy afT [a]) (by conv=>lhs;reduce;simp) ED
def afU:az:=ao (a:=cc 158) (by conv=>lhs;reduce;simp)
def EE:VC:=ao (a:=bG afU [0] []) (by conv=>lhs;reduce;simp)
def HA:az:=ao (a:=fun a=>cy afU [a]) (by conv=>lhs;reduce;simp) EE
def afV:az:=ao (a:=cc 159) (by conv=>lhs;reduce;simp)
def G0:VC:=ao (a:=bG afV [0] []) (by conv=>lhs;reduce;simp)
def QU:az:=ao (a:=fun a=>cy afV [a]) (by conv=>lhs;reduce;simp) G0
def afW:az:=ao (a:=cc 160) (by conv=>lhs;reduce;simp)
def G1:VC:=ao (a:=bG afW [0] []) (by conv=>lhs;reduce;simp)
def HB:az:=ao (a:=fun a=>cy afW [a]) (by conv=>lhs;reduce;simp) G1
def QV:az:=ao (a:=cc 163) (by conv=>lhs;reduce;simp)
def nL:az:=ao (a:=cc 164) (by conv=>lhs;reduce;simp)
def Wh:az:=ao (a:=cc 165) (by conv=>lhs;reduce;simp)
def CP:VC:=ao (a:=bG Wh [0] []) (by conv=>lhs;reduce;simp)
def CQ:VC:=ao (a:=bG Wh [1] []) (by conv=>lhs;reduce;simp)
def LV:az:=ao (a:=fun a b=>cy Wh [a,b]) (by conv=>lhs;reduce;simp) CP CQ
def afX:az:=ao (a:=cc 166) (by conv=>lhs;reduce;simp)
def EF:VC:=ao (a:=bG afX [0] []) (by conv=>lhs;reduce;simp)
def Dc:az:=ao (a:=fun a=>cy afX [a]) (by conv=>lhs;reduce) EF
def afY:az:=ao (a:=cc 168) (by conv=>lhs;reduce;simp)
def G2:VC:=ao (a:=bG afY [0] []) (by conv=>lhs;reduce;simp)
def QW:az:=ao (a:=fun a=>cy afY [a]) (by conv=>lhs;reduce;simp) G2
def Qe:az:=ao (a:=cc 169) (by conv=>lhs;reduce;simp)
def Bs:VC:=ao (a:=bG Qe [0] []) (by conv=>lhs;reduce;simp)
def KM:VC:=ao (a:=bG Qe [1] []) (by conv=>lhs;reduce;simp)
def KN:VC:=ao (a:=bG Qe [2] []) (by conv=>lhs;reduce;simp)
def Ar:az:=ao (a:=fun a b c=>cy Qe [a,b,c]) (by conv=>lhs;reduce;simp) Bs KM KN
def QX:az:=ao (a:=cc 172) (by conv=>lhs;reduce;simp)
end
end VE
