import Derived.Test.YtfdcefmdjiokdaaGreatDoorTad
set_option linter.all false
set_option maxRecDepth 100000
set_option maxHeartbeats 4000000
open Int renaming reduceNegSucc→yb,reduceOfNat→ye
namespace VE
open nd (cc)
noncomputable section
def m2F:au:=ak (a:=cc 2) (by conv=>{lhs;reduce;try simp only [ye,yb]})
def I7:VC:=ak (a:=bG m2F [0] []) (by conv=>{lhs;reduce;try simp only [ye,yb]})
def c2:au:=ak (a:=fun a=>fnv m2F [a]) (by conv=>{lhs;reduce;try simp only [ye,yb]}) I7
def U4:au:=ak (a:=cc 3) (by conv=>{lhs;reduce;try simp only [ye,yb]})
def Nn:VC:=ak (a:=bG U4 [0,0] []) (by conv=>{lhs;reduce;try simp only [ye,yb]})
def No:VC:=ak (a:=fun a=>bG U4 [0] [a]) (by conv=>{lhs;reduce;try simp only [ye,yb]}) Nn
def c3:au:=ak (a:=fun a=>fnv U4 [a]) (by conv=>{lhs;reduce;try simp only [ye,yb]}) No
def c4:au:=ak (a:=cc 4) (by conv=>{lhs;reduce;try simp only [ye,yb]})
def c9:au:=ak (a:=cc 9) (by conv=>{lhs;reduce;try simp only [ye,yb]})
def OO:au:=ak (a:=cc 11) (by conv=>{lhs;reduce;try simp only [ye,yb]})
def OP:au:=ak (a:=cc 19) (by conv=>{lhs;reduce;try simp only [ye,yb]})
def c20:au:=ak (a:=cc 20) (by conv=>{lhs;reduce;try simp only [ye,yb]})
def c24:au:=ak (a:=cc 24) (by conv=>{lhs;reduce;try simp only [ye,yb]})
def Dq:au:=ak (a:=cc 30) (by conv=>{lhs;reduce;try simp only [ye,yb]})
def Fw:au:=ak (a:=cc 31) (by conv=>{lhs;reduce;try simp only [ye,yb]})
def ac7:au:=ak (a:=cc 32) (by conv=>{lhs;reduce;try simp only [ye,yb]})
def MP:VC:=ak (a:=bG ac7 [0] []) (by conv=>{lhs;reduce;try simp only [ye,yb]})
def U5:au:=ak (a:=fun a=>fnv ac7 [a]) (by conv=>{lhs;reduce;try simp only [ye,yb]}) MP
def ac8:au:=ak (a:=cc 33) (by conv=>{lhs;reduce;try simp only [ye,yb]})
def MQ:VC:=ak (a:=bG ac8 [0] []) (by conv=>{lhs;reduce;try simp only [ye,yb]})
def Fx:au:=ak (a:=fun a=>fnv ac8 [a]) (by conv=>{lhs;reduce;try simp only [ye,yb]}) MQ
def c34:au:=ak (a:=cc 34) (by conv=>{lhs;reduce;try simp only [ye,yb]})
def SV:au:=ak (a:=cc 40) (by conv=>{lhs;reduce;try simp only [ye,yb]})
def asx:VC:=ak (a:=bG SV [0] []) (by conv=>{lhs;reduce;try simp only [ye,yb]})
def asy:VC:=ak (a:=bG SV [1] []) (by conv=>{lhs;reduce;try simp only [ye,yb]})
def c40:au:=ak (a:=fun a b=>fnv SV [a,b]) (by conv=>{lhs;reduce;try simp only [ye,yb]}) asx asy
def SW:au:=ak (a:=cc 41) (by conv=>{lhs;reduce;try simp only [ye,yb]})
def asz:VC:=ak (a:=bG SW [0] []) (by conv=>{lhs;reduce;try simp only [ye,yb]})
def asA:VC:=ak (a:=bG SW [1] []) (by conv=>{lhs;reduce;try simp only [ye,yb]})
def c41:au:=ak (a:=fun a b=>fnv SW [a,b]) (by conv=>{lhs;reduce;try simp only [ye,yb]}) asz asA
def ac9:au:=ak (a:=cc 42) (by conv=>{lhs;reduce;try simp only [ye,yb]})
def MR:VC:=ak (a:=bG ac9 [0] []) (by conv=>{lhs;reduce;try simp only [ye,yb]})
def Ki:au:=ak (a:=fun a=>fnv ac9 [a]) (by conv=>{lhs;reduce;try simp only [ye,yb]}) MR
def OQ:au:=ak (a:=cc 46) (by conv=>{lhs;reduce;try simp only [ye,yb]})
def c49:au:=ak (a:=cc 49) (by conv=>{lhs;reduce;try simp only [ye,yb]})
def U6:au:=ak (a:=cc 50) (by conv=>{lhs;reduce;try simp only [ye,yb]})
def c51:au:=ak (a:=cc 51) (by conv=>{lhs;reduce;try simp only [ye,yb]})
def U7:au:=ak (a:=cc 53) (by conv=>{lhs;reduce;try simp only [ye,yb]})
def U8:au:=ak (a:=cc 54) (by conv=>{lhs;reduce;try simp only [ye,yb]})
def OR:au:=ak (a:=cc 55) (by conv=>{lhs;reduce;try simp only [ye,yb]})
def ada:au:=ak (a:=cc 56) (by conv=>{lhs;reduce;try simp only [ye,yb]})
def EH:VC:=ak (a:=bG ada [0] []) (by conv=>{lhs;reduce;try simp only [ye,yb]})
def U9:au:=ak (a:=fun a=>fnv ada [a]) (by conv=>{lhs;reduce;try simp only [ye,yb]}) EH
def Fy:au:=ak (a:=cc 57) (by conv=>{lhs;reduce;try simp only [ye,yb]})
def c58:au:=ak (a:=cc 58) (by conv=>{lhs;reduce;try simp only [ye,yb]})
def c60:au:=ak (a:=cc 60) (by conv=>{lhs;reduce;try simp only [ye,yb]})
def c61:au:=ak (a:=cc 61) (by conv=>{lhs;reduce;try simp only [ye,yb]})
def OS:au:=ak (a:=cc 62) (by conv=>{lhs;reduce;try simp only [ye,yb]})
def c63:au:=ak (a:=cc 63) (by conv=>{lhs;reduce;try simp only [ye,yb]})
def c64:au:=ak (a:=cc 64) (by conv=>{lhs;reduce;try simp only [ye,yb]})
def c65:au:=ak (a:=cc 65) (by conv=>{lhs;reduce;try simp only [ye,yb]})
def c66:au:=ak (a:=cc 66) (by conv=>{lhs;reduce;try simp only [ye,yb]})
def c67:au:=ak (a:=cc 67) (by conv=>{lhs;reduce;try simp only [ye,yb]})
def c68:au:=⟨[.t 2],.g [qb 1 3 0,qf 2] (.e [qL 3 3 1,qo 4 0 1,qL 5 2 4,Rq 6 (.AL [.str [],.str [],.str []] [(0,2,.t 5),(2,1,.s [48])]),Rq 7 (.eq false (.ag [2,2,2]) (.t 3) (.t 6)),qm 2 7])⟩
def Va:au:=ak (a:=cc 69) (by conv=>{lhs;reduce;try simp only [ye,yb]})
def Vb:au:=ak (a:=cc 70) (by conv=>{lhs;reduce;try simp only [ye,yb]})
def Vc:au:=ak (a:=cc 71) (by conv=>{lhs;reduce;try simp only [ye,yb]})
def Vd:au:=ak (a:=cc 73) (by conv=>{lhs;reduce;try simp only [ye,yb]})
def Kj:au:=ak (a:=cc 74) (by conv=>{lhs;reduce;try simp only [ye,yb]})
def c75:au:=ak (a:=cc 75) (by conv=>{lhs;reduce;try simp only [ye,yb]})
def fe:au:=ak (a:=cc 86) (by conv=>{lhs;reduce;try simp only [ye,yb]})
def FA:au:=ak (a:=cc 94) (by conv=>{lhs;reduce;try simp only [ye,yb]})
def OT:au:=ak (a:=cc 95) (by conv=>{lhs;reduce;try simp only [ye,yb]})
def OU:au:=ak (a:=cc 96) (by conv=>{lhs;reduce;try simp only [ye,yb]})
def c97:au:=ak (a:=cc 97) (by conv=>{lhs;reduce;try simp only [ye,yb]})
def OV:au:=ak (a:=cc 98) (by conv=>{lhs;reduce;try simp only [ye,yb]})
def SX:au:=ak (a:=cc 99) (by conv=>{lhs;reduce;try simp only [ye,yb]})
def oL:VC:=ak (a:=bG SX [0] []) (by conv=>{lhs;reduce;try simp only [ye,yb]})
def asB:VC:=ak (a:=bG SX [1] []) (by conv=>{lhs;reduce;try simp only [ye,yb]})
def Dr:au:=ak (a:=fun a b=>fnv SX [a,b]) (by conv=>{lhs;reduce;try simp only [ye,yb]}) oL asB
def mo:au:=ak (a:=cc 100) (by conv=>{lhs;reduce;try simp only [ye,yb]})
def mV:au:=ak (a:=cc 101) (by conv=>{lhs;reduce;try simp only [ye,yb]})
def SY:au:=ak (a:=cc 102) (by conv=>{lhs;reduce;try simp only [ye,yb]})
def I8:au:=ak (a:=cc 103) (by conv=>{lhs;reduce;try simp only [ye,yb]})
def Np:au:=ak (a:=cc 104) (by conv=>{lhs;reduce;try simp only [ye,yb]})
def Nq:au:=ak (a:=cc 105) (by conv=>{lhs;reduce;try simp only [ye,yb]})
def abD:au:=ak (a:=cc 106) (by conv=>{lhs;reduce;try simp only [ye,yb]})
def H0:VC:=ak (a:=bG abD [0] []) (by conv=>{lhs;reduce;try simp only [ye,yb]})
def Nr:au:=ak (a:=fun a=>fnv abD [a]) (by conv=>{lhs;reduce;try simp only [ye,yb]}) H0
def Ns:au:=ak (a:=cc 107) (by conv=>{lhs;reduce;try simp only [ye,yb]})
def SZ:au:=ak (a:=cc 108) (by conv=>{lhs;reduce;try simp only [ye,yb]})
def abE:au:=ak (a:=cc 110) (by conv=>{lhs;reduce;try simp only [ye,yb]})
def Ee:VC:=ak (a:=bG abE [0] []) (by conv=>{lhs;reduce;try simp only [ye,yb]})
def Nt:au:=ak (a:=fun a=>fnv abE [a]) (by conv=>{lhs;reduce;try simp only [ye,yb]}) Ee
def S3:au:=ak (a:=cc 111) (by conv=>{lhs;reduce;try simp only [ye,yb]})
def adb:au:=ak (a:=cc 112) (by conv=>{lhs;reduce;try simp only [ye,yb]})
def ade:au:=ak (a:=cc 113) (by conv=>{lhs;reduce;try simp only [ye,yb]})
def adf:au:=ak (a:=cc 114) (by conv=>{lhs;reduce;try simp only [ye,yb]})
def adg:au:=ak (a:=cc 115) (by conv=>{lhs;reduce;try simp only [ye,yb]})
def adh:au:=ak (a:=cc 116) (by conv=>{lhs;reduce;try simp only [ye,yb]})
def Nv:au:=ak (a:=cc 117) (by conv=>{lhs;reduce;try simp only [ye,yb]})
def CR:au:=ak (a:=cc 118) (by conv=>{lhs;reduce;try simp only [ye,yb]})
def c119:au:=ak (a:=cc 119) (by conv=>{lhs;reduce;try simp only [ye,yb]})
def ER:au:=ak (a:=cc 124) (by conv=>{lhs;reduce;try simp only [ye,yb]})
def abF:au:=ak (a:=cc 125) (by conv=>{lhs;reduce;try simp only [ye,yb]})
def Mt:VC:=ak (a:=bG abF [0] []) (by conv=>{lhs;reduce;try simp only [ye,yb]})
def Nw:au:=ak (a:=fun a=>fnv abF [a]) (by conv=>{lhs;reduce;try simp only [ye,yb]}) Mt
def ES:au:=ak (a:=cc 129) (by conv=>{lhs;reduce;try simp only [ye,yb]})
def abG:au:=ak (a:=cc 130) (by conv=>{lhs;reduce;try simp only [ye,yb]})
def H4:VC:=ak (a:=bG abG [0] []) (by conv=>{lhs;reduce;try simp only [ye,yb]})
def S4:au:=ak (a:=fun a=>fnv abG [a]) (by conv=>{lhs;reduce;try simp only [ye,yb]}) H4
def abH:au:=ak (a:=cc 132) (by conv=>{lhs;reduce;try simp only [ye,yb]})
def Mu:VC:=ak (a:=bG abH [0] []) (by conv=>{lhs;reduce;try simp only [ye,yb]})
def I9:au:=ak (a:=fun a=>fnv abH [a]) (by conv=>{lhs;reduce;try simp only [ye,yb]}) Mu
def Sc:au:=ak (a:=cc 133) (by conv=>{lhs;reduce;try simp only [ye,yb]})
def H5:VC:=ak (a:=bG Sc [0,0] []) (by conv=>{lhs;reduce;try simp only [ye,yb]})
def H6:VC:=ak (a:=fun a=>bG Sc [0] [a]) (by conv=>{lhs;reduce;try simp only [ye,yb]}) H5
def Ja:au:=ak (a:=fun a=>fnv Sc [a]) (by conv=>{lhs;reduce;try simp only [ye,yb]}) H6
def ET:au:=ak (a:=cc 134) (by conv=>{lhs;reduce;try simp only [ye,yb]})
def Jb:au:=ak (a:=cc 136) (by conv=>{lhs;reduce;try simp only [ye,yb]})
def MS:au:=ak (a:=cc 137) (by conv=>{lhs;reduce;try simp only [ye,yb]})
def H7:VC:=ak (a:=bG MS [0] []) (by conv=>{lhs;reduce;try simp only [ye,yb]})
def H8:VC:=ak (a:=bG MS [1] []) (by conv=>{lhs;reduce;try simp only [ye,yb]})
def Ef:VC:=ak (a:=bG MS [2] []) (by conv=>{lhs;reduce;try simp only [ye,yb]})
def Jc:au:=ak (a:=fun a b c=>fnv MS [a,b,c]) (by conv=>{lhs;reduce;try simp only [ye,yb]}) H7 H8 Ef
def Nx:au:=ak (a:=cc 142) (by conv=>{lhs;reduce;try simp only [ye,yb]})
def Sd:au:=ak (a:=cc 144) (by conv=>{lhs;reduce;try simp only [ye,yb]})
def H9:VC:=ak (a:=bG Sd [0,0] []) (by conv=>{lhs;reduce;try simp only [ye,yb]})
def Ia:VC:=ak (a:=fun a=>bG Sd [0] [a]) (by conv=>{lhs;reduce;try simp only [ye,yb]}) H9
def Ny:au:=ak (a:=fun a=>fnv Sd [a]) (by conv=>{lhs;reduce;try simp only [ye,yb]}) Ia
def zo:au:=ak (a:=cc 145) (by conv=>{lhs;reduce;try simp only [ye,yb]})
def S5:au:=ak (a:=cc 146) (by conv=>{lhs;reduce;try simp only [ye,yb]})
def Jd:au:=ak (a:=cc 147) (by conv=>{lhs;reduce;try simp only [ye,yb]})
def S6:au:=ak (a:=cc 148) (by conv=>{lhs;reduce;try simp only [ye,yb]})
def S7:au:=ak (a:=cc 149) (by conv=>{lhs;reduce;try simp only [ye,yb]})
def AZ:au:=ak (a:=cc 150) (by conv=>{lhs;reduce;try simp only [ye,yb]})
def Nz:au:=ak (a:=cc 151) (by conv=>{lhs;reduce;try simp only [ye,yb]})
def abI:au:=ak (a:=cc 155) (by conv=>{lhs;reduce;try simp only [ye,yb]})
def Cj:VC:=ak (a:=bG abI [0] []) (by conv=>{lhs;reduce;try simp only [ye,yb]})
def EU:au:=ak (a:=fun a=>fnv abI [a]) (by conv=>{lhs;reduce;try simp only [ye,yb]}) Cj
def S8:au:=ak (a:=cc 156) (by conv=>{lhs;reduce;try simp only [ye,yb]})
def abJ:au:=ak (a:=cc 157) (by conv=>{lhs;reduce;try simp only [ye,yb]})
def Cl:VC:=ak (a:=bG abJ [0] []) (by conv=>{lhs;reduce;try simp only [ye,yb]})
def Je:au:=ak (a:=fun a=>fnv abJ [a]) (by conv=>{lhs;reduce;try simp only [ye,yb]}) Cl
def abK:au:=ak (a:=cc 158) (by conv=>{lhs;reduce;try simp only [ye,yb]})
def Cm:VC:=ak (a:=bG abK [0] []) (by conv=>{lhs;reduce;try simp only [ye,yb]})
def EV:au:=ak (a:=fun a=>fnv abK [a]) (by conv=>{lhs;reduce;try simp only [ye,yb]}) Cm
def abL:au:=ak (a:=cc 159) (by conv=>{lhs;reduce;try simp only [ye,yb]})
def Eg:VC:=ak (a:=bG abL [0] []) (by conv=>{lhs;reduce;try simp only [ye,yb]})
def NA:au:=ak (a:=fun a=>fnv abL [a]) (by conv=>{lhs;reduce;try simp only [ye,yb]}) Eg
def NB:au:=ak (a:=cc 163) (by conv=>{lhs;reduce;try simp only [ye,yb]})
def mq:au:=ak (a:=cc 164) (by conv=>{lhs;reduce;try simp only [ye,yb]})
def Se:au:=ak (a:=cc 165) (by conv=>{lhs;reduce;try simp only [ye,yb]})
def AA:VC:=ak (a:=bG Se [0] []) (by conv=>{lhs;reduce;try simp only [ye,yb]})
def AB:VC:=ak (a:=bG Se [1] []) (by conv=>{lhs;reduce;try simp only [ye,yb]})
def Jf:au:=ak (a:=fun a b=>fnv Se [a,b]) (by conv=>{lhs;reduce;try simp only [ye,yb]}) AA AB
def abM:au:=ak (a:=cc 166) (by conv=>{lhs;reduce;try simp only [ye,yb]})
def Cn:VC:=ak (a:=bG abM [0] []) (by conv=>{lhs;reduce;try simp only [ye,yb]})
def A0:au:=ak (a:=fun a=>fnv abM [a]) (by conv=>{lhs;reduce;try simp only [ye,yb]}) Cn
def abN:au:=ak (a:=cc 168) (by conv=>{lhs;reduce;try simp only [ye,yb]})
def Eh:VC:=ak (a:=bG abN [0] []) (by conv=>{lhs;reduce;try simp only [ye,yb]})
def NC:au:=ak (a:=fun a=>fnv abN [a]) (by conv=>{lhs;reduce;try simp only [ye,yb]}) Eh
def MT:au:=ak (a:=cc 169) (by conv=>{lhs;reduce;try simp only [ye,yb]})
def sY:VC:=ak (a:=bG MT [0] []) (by conv=>{lhs;reduce;try simp only [ye,yb]})
def Ib:VC:=ak (a:=bG MT [1] []) (by conv=>{lhs;reduce;try simp only [ye,yb]})
def Ic:VC:=ak (a:=bG MT [2] []) (by conv=>{lhs;reduce;try simp only [ye,yb]})
def rz:au:=ak (a:=fun a b c=>fnv MT [a,b,c]) (by conv=>{lhs;reduce;try simp only [ye,yb]}) sY Ib Ic
def Jg:au:=ak (a:=cc 172) (by conv=>{lhs;reduce;try simp only [ye,yb]})
end
end VE
