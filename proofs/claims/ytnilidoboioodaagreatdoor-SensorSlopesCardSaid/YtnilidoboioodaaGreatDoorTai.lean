import Derived.Test.YtnilidoboioodaaGreatDoorTah
set_option linter.all false
set_option maxRecDepth 100000
set_option maxHeartbeats 4000000
open Int renaming reduceNegSucc→yd,reduceOfNat→ye
namespace VE
open kW (cc)
noncomputable section
def WD:aF:=az (a:=cc 29) (by conv=>{lhs;reduce;try simp only [ye,yd]})
def Ft:VC:=az (a:=cl WD [0] []) (by conv=>{lhs;reduce;try simp only [ye,yd]})
def Kz:aF:=az (a:=fun a=>c6 WD [a]) (by conv=>{lhs;reduce;try simp only [ye,yd]}) Ft
def KA:aF:=az (a:=cc 46) (by conv=>{lhs;reduce;try simp only [ye,yd]})
def c49:aF:=az (a:=cc 49) (by conv=>{lhs;reduce;try simp only [ye,yd]})
def Pv:aF:=az (a:=cc 50) (by conv=>{lhs;reduce;try simp only [ye,yd]})
def KB:aF:=az (a:=cc 62) (by conv=>{lhs;reduce;try simp only [ye,yd]})
def Pw:aF:=az (a:=cc 69) (by conv=>{lhs;reduce;try simp only [ye,yd]})
def Yg:aF:=az (a:=cc 70) (by conv=>{lhs;reduce;try simp only [ye,yd]})
def Yh:aF:=az (a:=cc 71) (by conv=>{lhs;reduce;try simp only [ye,yd]})
def Yi:aF:=az (a:=cc 73) (by conv=>{lhs;reduce;try simp only [ye,yd]})
def GM:aF:=az (a:=cc 74) (by conv=>{lhs;reduce;try simp only [ye,yd]})
def ej:aF:=az (a:=cc 86) (by conv=>{lhs;reduce;try simp only [ye,yd]})
def KC:aF:=az (a:=cc 98) (by conv=>{lhs;reduce;try simp only [ye,yd]})
def NV:aF:=az (a:=cc 99) (by conv=>{lhs;reduce;try simp only [ye,yd]})
def mI:VC:=az (a:=cl NV [0] []) (by conv=>{lhs;reduce;try simp only [ye,yd]})
def akX:VC:=az (a:=cl NV [1] []) (by conv=>{lhs;reduce;try simp only [ye,yd]})
def A8:aF:=az (a:=fun a b=>c6 NV [a,b]) (by conv=>{lhs;reduce;try simp only [ye,yd]}) mI akX
def j9:aF:=az (a:=cc 100) (by conv=>{lhs;reduce;try simp only [ye,yd]})
def kN:aF:=az (a:=cc 101) (by conv=>{lhs;reduce;try simp only [ye,yd]})
def NW:aF:=az (a:=cc 102) (by conv=>{lhs;reduce;try simp only [ye,yd]})
def Jy:aF:=az (a:=cc 107) (by conv=>{lhs;reduce;try simp only [ye,yd]})
def WE:aF:=az (a:=cc 108) (by conv=>{lhs;reduce;try simp only [ye,yd]})
def Vi:aF:=az (a:=cc 110) (by conv=>{lhs;reduce;try simp only [ye,yd]})
def BO:VC:=az (a:=cl Vi [0] []) (by conv=>{lhs;reduce;try simp only [ye,yd]})
def Jz:aF:=az (a:=fun a=>c6 Vi [a]) (by conv=>{lhs;reduce;try simp only [ye,yd]}) BO
def NX:aF:=az (a:=cc 111) (by conv=>{lhs;reduce;try simp only [ye,yd]})
def JA:aF:=az (a:=cc 117) (by conv=>{lhs;reduce;try simp only [ye,yd]})
def AG:aF:=az (a:=cc 118) (by conv=>{lhs;reduce;try simp only [ye,yd]})
def c119:aF:=az (a:=cc 119) (by conv=>{lhs;reduce;try simp only [ye,yd]})
def FE:aF:=az (a:=cc 122) (by conv=>{lhs;reduce;try simp only [ye,yd]})
def Vj:aF:=az (a:=cc 123) (by conv=>{lhs;reduce;try simp only [ye,yd]})
def EQ:VC:=az (a:=cl Vj [0] []) (by conv=>{lhs;reduce;try simp only [ye,yd]})
def FF:aF:=az (a:=fun a=>c6 Vj [a]) (by conv=>{lhs;reduce;try simp only [ye,yd]}) EQ
def Ch:aF:=az (a:=cc 124) (by conv=>{lhs;reduce;try simp only [ye,yd]})
def Vk:aF:=az (a:=cc 125) (by conv=>{lhs;reduce;try simp only [ye,yd]})
def IV:VC:=az (a:=cl Vk [0] []) (by conv=>{lhs;reduce;try simp only [ye,yd]})
def JB:aF:=az (a:=fun a=>c6 Vk [a]) (by conv=>{lhs;reduce;try simp only [ye,yd]}) IV
def Ci:aF:=az (a:=cc 129) (by conv=>{lhs;reduce;try simp only [ye,yd]})
def Vl:aF:=az (a:=cc 130) (by conv=>{lhs;reduce;try simp only [ye,yd]})
def ER:VC:=az (a:=cl Vl [0] []) (by conv=>{lhs;reduce;try simp only [ye,yd]})
def NY:aF:=az (a:=fun a=>c6 Vl [a]) (by conv=>{lhs;reduce;try simp only [ye,yd]}) ER
def FG:aF:=az (a:=cc 136) (by conv=>{lhs;reduce;try simp only [ye,yd]})
def Jd:aF:=az (a:=cc 137) (by conv=>{lhs;reduce;try simp only [ye,yd]})
def ES:VC:=az (a:=cl Jd [0] []) (by conv=>{lhs;reduce;try simp only [ye,yd]})
def ET:VC:=az (a:=cl Jd [1] []) (by conv=>{lhs;reduce;try simp only [ye,yd]})
def BP:VC:=az (a:=cl Jd [2] []) (by conv=>{lhs;reduce;try simp only [ye,yd]})
def FH:aF:=az (a:=fun a b c=>c6 Jd [a,b,c]) (by conv=>{lhs;reduce;try simp only [ye,yd]}) ES ET BP
def JC:aF:=az (a:=cc 142) (by conv=>{lhs;reduce;try simp only [ye,yd]})
def No:aF:=az (a:=cc 144) (by conv=>{lhs;reduce;try simp only [ye,yd]})
def EU:VC:=az (a:=cl No [0,0] []) (by conv=>{lhs;reduce;try simp only [ye,yd]})
def EV:VC:=az (a:=fun a=>cl No [0] [a]) (by conv=>{lhs;reduce;try simp only [ye,yd]}) EU
def JD:aF:=az (a:=fun a=>c6 No [a]) (by conv=>{lhs;reduce;try simp only [ye,yd]}) EV
def qt:aF:=az (a:=cc 145) (by conv=>{lhs;reduce;try simp only [ye,yd]})
def NZ:aF:=az (a:=cc 146) (by conv=>{lhs;reduce;try simp only [ye,yd]})
def FI:aF:=az (a:=cc 147) (by conv=>{lhs;reduce;try simp only [ye,yd]})
def N1:aF:=az (a:=cc 148) (by conv=>{lhs;reduce;try simp only [ye,yd]})
def WG:aF:=az (a:=cc 149) (by conv=>{lhs;reduce;try simp only [ye,yd]})
def JE:aF:=az (a:=cc 151) (by conv=>{lhs;reduce;try simp only [ye,yd]})
def Vm:aF:=az (a:=cc 155) (by conv=>{lhs;reduce;try simp only [ye,yd]})
def zZ:VC:=az (a:=cl Vm [0] []) (by conv=>{lhs;reduce;try simp only [ye,yd]})
def JF:aF:=az (a:=fun a=>c6 Vm [a]) (by conv=>{lhs;reduce;try simp only [ye,yd]}) zZ
def N2:aF:=az (a:=cc 156) (by conv=>{lhs;reduce;try simp only [ye,yd]})
def Vn:aF:=az (a:=cc 157) (by conv=>{lhs;reduce;try simp only [ye,yd]})
def z6:VC:=az (a:=cl Vn [0] []) (by conv=>{lhs;reduce;try simp only [ye,yd]})
def FJ:aF:=az (a:=fun a=>c6 Vn [a]) (by conv=>{lhs;reduce;try simp only [ye,yd]}) z6
def Vo:aF:=az (a:=cc 158) (by conv=>{lhs;reduce;try simp only [ye,yd]})
def z7:VC:=az (a:=cl Vo [0] []) (by conv=>{lhs;reduce;try simp only [ye,yd]})
def Cj:aF:=az (a:=fun a=>c6 Vo [a]) (by conv=>{lhs;reduce;try simp only [ye,yd]}) z7
def Vp:aF:=az (a:=cc 159) (by conv=>{lhs;reduce;try simp only [ye,yd]})
def BQ:VC:=az (a:=cl Vp [0] []) (by conv=>{lhs;reduce;try simp only [ye,yd]})
def JG:aF:=az (a:=fun a=>c6 Vp [a]) (by conv=>{lhs;reduce;try simp only [ye,yd]}) BQ
def Vq:aF:=az (a:=cc 160) (by conv=>{lhs;reduce;try simp only [ye,yd]})
def BR:VC:=az (a:=cl Vq [0] []) (by conv=>{lhs;reduce;try simp only [ye,yd]})
def Cl:aF:=az (a:=fun a=>c6 Vq [a]) (by conv=>{lhs;reduce;try simp only [ye,yd]}) BR
def JH:aF:=az (a:=cc 163) (by conv=>{lhs;reduce;try simp only [ye,yd]})
def kh:aF:=az (a:=cc 164) (by conv=>{lhs;reduce;try simp only [ye,yd]})
def Np:aF:=az (a:=cc 165) (by conv=>{lhs;reduce;try simp only [ye,yd]})
def rS:VC:=az (a:=cl Np [0] []) (by conv=>{lhs;reduce;try simp only [ye,yd]})
def rT:VC:=az (a:=cl Np [1] []) (by conv=>{lhs;reduce;try simp only [ye,yd]})
def FK:aF:=az (a:=fun a b=>c6 Np [a,b]) (by conv=>{lhs;reduce;try simp only [ye,yd]}) rS rT
def Vr:aF:=az (a:=cc 166) (by conv=>{lhs;reduce;try simp only [ye,yd]})
def z8:VC:=az (a:=cl Vr [0] []) (by conv=>{lhs;reduce;try simp only [ye,yd]})
def sB:aF:=az (a:=fun a=>c6 Vr [a]) (by conv=>{lhs;reduce;try simp only [ye,yd]}) z8
def Vs:aF:=az (a:=cc 168) (by conv=>{lhs;reduce;try simp only [ye,yd]})
def BS:VC:=az (a:=cl Vs [0] []) (by conv=>{lhs;reduce;try simp only [ye,yd]})
def JI:aF:=az (a:=fun a=>c6 Vs [a]) (by conv=>{lhs;reduce;try simp only [ye,yd]}) BS
def Je:aF:=az (a:=cc 169) (by conv=>{lhs;reduce;try simp only [ye,yd]})
def pP:VC:=az (a:=cl Je [0] []) (by conv=>{lhs;reduce;try simp only [ye,yd]})
def EW:VC:=az (a:=cl Je [1] []) (by conv=>{lhs;reduce;try simp only [ye,yd]})
def EX:VC:=az (a:=cl Je [2] []) (by conv=>{lhs;reduce;try simp only [ye,yd]})
def oE:aF:=az (a:=fun a b c=>c6 Je [a,b,c]) (by conv=>{lhs;reduce;try simp only [ye,yd]}) pP EW EX
def JJ:aF:=az (a:=cc 172) (by conv=>{lhs;reduce;try simp only [ye,yd]})
end
end VE
