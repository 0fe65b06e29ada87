import Derived.Test.YtebpicijmcnecaaGreatDoorTad
set_option linter.all false
set_option maxRecDepth 100000
set_option maxHeartbeats 4000000
namespace VE
open lO (cc)
noncomputable section
def Ry:aA:=ao (a:=cc 46) (by conv=>lhs;reduce)
def c49:aA:=ao (a:=cc 49) (by conv=>lhs;reduce;simp)
def Yb:aA:=ao (a:=cc 50) (by conv=>lhs;reduce;simp)
def Rz:aA:=ao (a:=cc 62) (by conv=>lhs;reduce;simp)
def Yc:aA:=ao (a:=cc 69) (by conv=>lhs;reduce;simp)
def Yd:aA:=ao (a:=cc 70) (by conv=>lhs;reduce;simp)
def Ye:aA:=ao (a:=cc 71) (by conv=>lhs;reduce;simp)
def Yf:aA:=ao (a:=cc 73) (by conv=>lhs;reduce;simp)
def My:aA:=ao (a:=cc 74) (by conv=>lhs;reduce;simp)
def fG:aA:=ao (a:=cc 86) (by conv=>lhs;reduce;simp)
def RA:aA:=ao (a:=cc 98) (by conv=>lhs;reduce;simp)
def V5:aA:=ao (a:=cc 99) (by conv=>lhs;reduce;simp)
def qV:VC:=ao (a:=bE V5 [0] []) (by conv=>lhs;reduce;simp)
def awZ:VC:=ao (a:=bE V5 [1] []) (by conv=>lhs;reduce;simp)
def Fi:aA:=ao (a:=fun a b=>cy V5 [a,b]) (by conv=>lhs;reduce;simp) qV awZ
def nE:aA:=ao (a:=cc 100) (by conv=>lhs;reduce;simp)
def oz:aA:=ao (a:=cc 101) (by conv=>lhs;reduce;simp)
def V6:aA:=ao (a:=cc 102) (by conv=>lhs;reduce;simp)
def PU:aA:=ao (a:=cc 107) (by conv=>lhs;reduce)
def V7:aA:=ao (a:=cc 108) (by conv=>lhs;reduce;simp)
def aeS:aA:=ao (a:=cc 110) (by conv=>lhs;reduce;simp)
def Gl:VC:=ao (a:=bE aeS [0] []) (by conv=>lhs;reduce;simp)
def PV:aA:=ao (a:=fun a=>cy aeS [a]) (by conv=>lhs;reduce;simp) Gl
def V8:aA:=ao (a:=cc 111) (by conv=>lhs;reduce;simp)
def PW:aA:=ao (a:=cc 117) (by conv=>lhs;reduce;simp)
def EJ:aA:=ao (a:=cc 118) (by conv=>lhs;reduce;simp)
def c119:aA:=ao (a:=cc 119) (by conv=>lhs;reduce;simp)
def KX:aA:=ao (a:=cc 122) (by conv=>lhs;reduce;simp)
def aeT:aA:=ao (a:=cc 123) (by conv=>lhs;reduce;simp)
def JU:VC:=ao (a:=bE aeT [0] []) (by conv=>lhs;reduce;simp)
def KY:aA:=ao (a:=fun a=>cy aeT [a]) (by conv=>lhs;reduce;simp) JU
def G5:aA:=ao (a:=cc 124) (by conv=>lhs;reduce;simp)
def aeU:aA:=ao (a:=cc 125) (by conv=>lhs;reduce;simp)
def OS:VC:=ao (a:=bE aeU [0] []) (by conv=>lhs;reduce;simp)
def PX:aA:=ao (a:=fun a=>cy aeU [a]) (by conv=>lhs;reduce;simp) OS
def G6:aA:=ao (a:=cc 129) (by conv=>lhs;reduce;simp)
def aeV:aA:=ao (a:=cc 130) (by conv=>lhs;reduce;simp)
def JV:VC:=ao (a:=bE aeV [0] []) (by conv=>lhs;reduce;simp)
def V9:aA:=ao (a:=fun a=>cy aeV [a]) (by conv=>lhs;reduce;simp) JV
def KZ:aA:=ao (a:=cc 136) (by conv=>lhs;reduce;simp)
def Pk:aA:=ao (a:=cc 137) (by conv=>lhs;reduce;simp)
def JW:VC:=ao (a:=bE Pk [0] []) (by conv=>lhs;reduce;simp)
def JX:VC:=ao (a:=bE Pk [1] []) (by conv=>lhs;reduce;simp)
def Gm:VC:=ao (a:=bE Pk [2] []) (by conv=>lhs;reduce;simp)
def K0:aA:=ao (a:=fun a b c=>cy Pk [a,b,c]) (by conv=>lhs;reduce;simp) JW JX Gm
def PY:aA:=ao (a:=cc 142) (by conv=>lhs;reduce;simp)
def Vd:aA:=ao (a:=cc 144) (by conv=>lhs;reduce;simp)
def JY:VC:=ao (a:=bE Vd [0,0] []) (by conv=>lhs;reduce;simp)
def JZ:VC:=ao (a:=fun a=>bE Vd [0] [a]) (by conv=>lhs;reduce;simp) JY
def PZ:aA:=ao (a:=fun a=>cy Vd [a]) (by conv=>lhs;reduce;simp) JZ
def Bl:aA:=ao (a:=cc 145) (by conv=>lhs;reduce;simp)
def Wa:aA:=ao (a:=cc 146) (by conv=>lhs;reduce;simp)
def K1:aA:=ao (a:=cc 147) (by conv=>lhs;reduce;simp)
def Wb:aA:=ao (a:=cc 148) (by conv=>lhs;reduce;simp)
def agx:aA:=ao (a:=cc 149) (by conv=>lhs;reduce;simp)
def P0:aA:=ao (a:=cc 151) (by conv=>lhs;reduce;simp)
def aeW:aA:=ao (a:=cc 155) (by conv=>lhs;reduce;simp)
def D5:VC:=ao (a:=bE aeW [0] []) (by conv=>lhs;reduce;simp)
def EK:aA:=ao (a:=fun a=>cy aeW [a]) (by conv=>lhs;reduce;simp) D5
def Wc:aA:=ao (a:=cc 156) (by conv=>lhs;reduce;simp)
def aeX:aA:=ao (a:=cc 157) (by conv=>lhs;reduce;simp)
def D6:VC:=ao (a:=bE aeX [0] []) (by conv=>lhs;reduce;simp)
def K2:aA:=ao (a:=fun a=>cy aeX [a]) (by conv=>lhs;reduce;simp) D6
def aeY:aA:=ao (a:=cc 158) (by conv=>lhs;reduce;simp)
def D7:VC:=ao (a:=bE aeY [0] []) (by conv=>lhs;reduce;simp)
def G7:aA:=ao (a:=fun a=>cy aeY [a]) (by conv=>lhs;reduce;simp) D7
def aeZ:aA:=ao (a:=cc 159) (by conv=>lhs;reduce;simp)
def Gn:VC:=ao (a:=bE aeZ [0] []) (by conv=>lhs;reduce;simp)
def P1:aA:=ao (a:=fun a=>cy aeZ [a]) (by conv=>lhs;reduce;simp) Gn
def ae0:aA:=ao (a:=cc 160) (by conv=>lhs;reduce;simp)
def Gp:VC:=ao (a:=bE ae0 [0] []) (by conv=>lhs;reduce;simp)
def G8:aA:=ao (a:=fun a=>cy ae0 [a]) (by conv=>lhs;reduce;simp) Gp
def P2:aA:=ao (a:=cc 163) (by conv=>lhs;reduce;simp)
def nF:aA:=ao (a:=cc 164) (by conv=>lhs;reduce;simp)
def Ve:aA:=ao (a:=cc 165) (by conv=>lhs;reduce;simp)
def Cq:VC:=ao (a:=bE Ve [0] []) (by conv=>lhs;reduce;simp)
def Cr:VC:=ao (a:=bE Ve [1] []) (by conv=>lhs;reduce;simp)
def K3:aA:=ao (a:=fun a b=>cy Ve [a,b]) (by conv=>lhs;reduce;simp) Cq Cr
def ae1:aA:=ao (a:=cc 166) (by conv=>lhs;reduce;simp)
def D8:VC:=ao (a:=bE ae1 [0] []) (by conv=>lhs;reduce;simp)
def CR:aA:=ao (a:=fun a=>cy ae1 [a]) (by conv=>lhs;reduce) D8
def ae2:aA:=ao (a:=cc 168) (by conv=>lhs;reduce;simp)
def Gq:VC:=ao (a:=bE ae2 [0] []) (by conv=>lhs;reduce;simp)
def P3:aA:=ao (a:=fun a=>cy ae2 [a]) (by conv=>lhs;reduce;simp) Gq
def Pm:aA:=ao (a:=cc 169) (by conv=>lhs;reduce;simp)
def AZ:VC:=ao (a:=bE Pm [0] []) (by conv=>lhs;reduce;simp)
def J0:VC:=ao (a:=bE Pm [1] []) (by conv=>lhs;reduce;simp)
def J4:VC:=ao (a:=bE Pm [2] []) (by conv=>lhs;reduce;simp)
def zP:aA:=ao (a:=fun a b c=>cy Pm [a,b,c]) (by conv=>lhs;reduce;simp) AZ J0 J4
def P4:aA:=ao (a:=cc 172) (by conv=>lhs;reduce;simp)
end
end VE
