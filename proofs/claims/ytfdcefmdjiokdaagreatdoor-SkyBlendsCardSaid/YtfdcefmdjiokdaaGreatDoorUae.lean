import Derived.Test.YtfdcefmdjiokdaaGreatDoorUad
set_option linter.all false
set_option maxRecDepth 100000
set_option maxHeartbeats 4000000
open Int renaming reduceNegSucc→yc,reduceOfNat→ye
namespace VE
open mU (cc)
noncomputable section
def TK:ax:=ao (a:=cc 3) (by conv=>{lhs;reduce;try simp only [ye,yc]})
def MA:VC:=ao (a:=bY TK [0,0] []) (by conv=>{lhs;reduce;try simp only [ye,yc]})
def MB:VC:=ao (a:=fun a=>bY TK [0] [a]) (by conv=>{lhs;reduce;try simp only [ye,yc]}) MA
def c3:ax:=ao (a:=fun a=>fnv TK [a]) (by conv=>{lhs;reduce;try simp only [ye,yc]}) MB
def c4:ax:=ao (a:=cc 4) (by conv=>{lhs;reduce;try simp only [ye,yc]})
def c9:ax:=ao (a:=cc 9) (by conv=>{lhs;reduce;try simp only [ye,yc]})
def NY:ax:=ao (a:=cc 14) (by conv=>{lhs;reduce;try simp only [ye,yc]})
def NZ:ax:=ao (a:=cc 19) (by conv=>{lhs;reduce;try simp only [ye,yc]})
def c20:ax:=ao (a:=cc 20) (by conv=>{lhs;reduce;try simp only [ye,yc]})
def c24:ax:=ao (a:=cc 24) (by conv=>{lhs;reduce;try simp only [ye,yc]})
def CR:ax:=ao (a:=cc 30) (by conv=>{lhs;reduce;try simp only [ye,yc]})
def EN:ax:=ao (a:=cc 31) (by conv=>{lhs;reduce;try simp only [ye,yc]})
def abH:ax:=ao (a:=cc 32) (by conv=>{lhs;reduce;try simp only [ye,yc]})
def LZ:VC:=ao (a:=bY abH [0] []) (by conv=>{lhs;reduce;try simp only [ye,yc]})
def TL:ax:=ao (a:=fun a=>fnv abH [a]) (by conv=>{lhs;reduce;try simp only [ye,yc]}) LZ
def abI:ax:=ao (a:=cc 33) (by conv=>{lhs;reduce;try simp only [ye,yc]})
def L2:VC:=ao (a:=bY abI [0] []) (by conv=>{lhs;reduce;try simp only [ye,yc]})
def EO:ax:=ao (a:=fun a=>fnv abI [a]) (by conv=>{lhs;reduce;try simp only [ye,yc]}) L2
def c34:ax:=ao (a:=cc 34) (by conv=>{lhs;reduce;try simp only [ye,yc]})
def RU:ax:=ao (a:=cc 40) (by conv=>{lhs;reduce;try simp only [ye,yc]})
def aqW:VC:=ao (a:=bY RU [0] []) (by conv=>{lhs;reduce;try simp only [ye,yc]})
def aqX:VC:=ao (a:=bY RU [1] []) (by conv=>{lhs;reduce;try simp only [ye,yc]})
def c40:ax:=ao (a:=fun a b=>fnv RU [a,b]) (by conv=>{lhs;reduce;try simp only [ye,yc]}) aqW aqX
def RW:ax:=ao (a:=cc 41) (by conv=>{lhs;reduce;try simp only [ye,yc]})
def aqY:VC:=ao (a:=bY RW [0] []) (by conv=>{lhs;reduce;try simp only [ye,yc]})
def aqZ:VC:=ao (a:=bY RW [1] []) (by conv=>{lhs;reduce;try simp only [ye,yc]})
def c41:ax:=ao (a:=fun a b=>fnv RW [a,b]) (by conv=>{lhs;reduce;try simp only [ye,yc]}) aqY aqZ
def N1:ax:=ao (a:=cc 46) (by conv=>{lhs;reduce;try simp only [ye,yc]})
def c49:ax:=ao (a:=cc 49) (by conv=>{lhs;reduce;try simp only [ye,yc]})
def TM:ax:=ao (a:=cc 50) (by conv=>{lhs;reduce;try simp only [ye,yc]})
def c51:ax:=ao (a:=cc 51) (by conv=>{lhs;reduce;try simp only [ye,yc]})
def TN:ax:=ao (a:=cc 53) (by conv=>{lhs;reduce;try simp only [ye,yc]})
def TO:ax:=ao (a:=cc 54) (by conv=>{lhs;reduce;try simp only [ye,yc]})
def N2:ax:=ao (a:=cc 55) (by conv=>{lhs;reduce;try simp only [ye,yc]})
def abJ:ax:=ao (a:=cc 56) (by conv=>{lhs;reduce;try simp only [ye,yc]})
def D1:VC:=ao (a:=bY abJ [0] []) (by conv=>{lhs;reduce;try simp only [ye,yc]})
def TP:ax:=ao (a:=fun a=>fnv abJ [a]) (by conv=>{lhs;reduce;try simp only [ye,yc]}) D1
def EP:ax:=ao (a:=cc 57) (by conv=>{lhs;reduce;try simp only [ye,yc]})
def c58:ax:=ao (a:=cc 58) (by conv=>{lhs;reduce;try simp only [ye,yc]})
def c60:ax:=ao (a:=cc 60) (by conv=>{lhs;reduce;try simp only [ye,yc]})
def c61:ax:=ao (a:=cc 61) (by conv=>{lhs;reduce;try simp only [ye,yc]})
def N3:ax:=ao (a:=cc 62) (by conv=>{lhs;reduce;try simp only [ye,yc]})
def c63:ax:=ao (a:=cc 63) (by conv=>{lhs;reduce;try simp only [ye,yc]})
def c64:ax:=ao (a:=cc 64) (by conv=>{lhs;reduce;try simp only [ye,yc]})
def c65:ax:=ao (a:=cc 65) (by conv=>{lhs;reduce;try simp only [ye,yc]})
def c66:ax:=ao (a:=cc 66) (by conv=>{lhs;reduce;try simp only [ye,yc]})
def c67:ax:=ao (a:=cc 67) (by conv=>{lhs;reduce;try simp only [ye,yc]})
def c68:ax:=⟨[.t 2],.g [qb 1 3 0,qf 2] (.e [qL 3 3 1,qo 4 0 1,qL 5 2 4,Rq 6 (.Aw [.str [],.str [],.str []] [(0,2,.t 5),(2,1,.s [48])]),Rq 7 (.eq false (.ag [2,2,2]) (.t 3) (.t 6)),qm 2 7])⟩
def TQ:ax:=ao (a:=cc 69) (by conv=>{lhs;reduce;try simp only [ye,yc]})
def TR:ax:=ao (a:=cc 70) (by conv=>{lhs;reduce;try simp only [ye,yc]})
def TS:ax:=ao (a:=cc 71) (by conv=>{lhs;reduce;try simp only [ye,yc]})
def TU:ax:=ao (a:=cc 73) (by conv=>{lhs;reduce;try simp only [ye,yc]})
def Jp:ax:=ao (a:=cc 74) (by conv=>{lhs;reduce;try simp only [ye,yc]})
def c75:ax:=ao (a:=cc 75) (by conv=>{lhs;reduce;try simp only [ye,yc]})
def eP:ax:=ao (a:=cc 86) (by conv=>{lhs;reduce;try simp only [ye,yc]})
def EQ:ax:=ao (a:=cc 94) (by conv=>{lhs;reduce;try simp only [ye,yc]})
def N4:ax:=ao (a:=cc 95) (by conv=>{lhs;reduce;try simp only [ye,yc]})
def N5:ax:=ao (a:=cc 96) (by conv=>{lhs;reduce;try simp only [ye,yc]})
def c97:ax:=ao (a:=cc 97) (by conv=>{lhs;reduce;try simp only [ye,yc]})
def N6:ax:=ao (a:=cc 98) (by conv=>{lhs;reduce;try simp only [ye,yc]})
def RX:ax:=ao (a:=cc 99) (by conv=>{lhs;reduce;try simp only [ye,yc]})
def oE:VC:=ao (a:=bY RX [0] []) (by conv=>{lhs;reduce;try simp only [ye,yc]})
def aq0:VC:=ao (a:=bY RX [1] []) (by conv=>{lhs;reduce;try simp only [ye,yc]})
def CS:ax:=ao (a:=fun a b=>fnv RX [a,b]) (by conv=>{lhs;reduce;try simp only [ye,yc]}) oE aq0
def mb:ax:=ao (a:=cc 100) (by conv=>{lhs;reduce;try simp only [ye,yc]})
def mM:ax:=ao (a:=cc 101) (by conv=>{lhs;reduce;try simp only [ye,yc]})
def RY:ax:=ao (a:=cc 102) (by conv=>{lhs;reduce;try simp only [ye,yc]})
def Ig:ax:=ao (a:=cc 103) (by conv=>{lhs;reduce;try simp only [ye,yc]})
def MC:ax:=ao (a:=cc 104) (by conv=>{lhs;reduce;try simp only [ye,yc]})
def MD:ax:=ao (a:=cc 105) (by conv=>{lhs;reduce;try simp only [ye,yc]})
def aaj:ax:=ao (a:=cc 106) (by conv=>{lhs;reduce;try simp only [ye,yc]})
def Hi:VC:=ao (a:=bY aaj [0] []) (by conv=>{lhs;reduce;try simp only [ye,yc]})
def ME:ax:=ao (a:=fun a=>fnv aaj [a]) (by conv=>{lhs;reduce;try simp only [ye,yc]}) Hi
def MF:ax:=ao (a:=cc 107) (by conv=>{lhs;reduce;try simp only [ye,yc]})
def RZ:ax:=ao (a:=cc 108) (by conv=>{lhs;reduce;try simp only [ye,yc]})
def aak:ax:=ao (a:=cc 110) (by conv=>{lhs;reduce;try simp only [ye,yc]})
def DE:VC:=ao (a:=bY aak [0] []) (by conv=>{lhs;reduce;try simp only [ye,yc]})
def MG:ax:=ao (a:=fun a=>fnv aak [a]) (by conv=>{lhs;reduce;try simp only [ye,yc]}) DE
def R0:ax:=ao (a:=cc 111) (by conv=>{lhs;reduce;try simp only [ye,yc]})
def abK:ax:=ao (a:=cc 112) (by conv=>{lhs;reduce;try simp only [ye,yc]})
def abL:ax:=ao (a:=cc 113) (by conv=>{lhs;reduce;try simp only [ye,yc]})
def abM:ax:=ao (a:=cc 114) (by conv=>{lhs;reduce;try simp only [ye,yc]})
def abN:ax:=ao (a:=cc 115) (by conv=>{lhs;reduce;try simp only [ye,yc]})
def abO:ax:=ao (a:=cc 116) (by conv=>{lhs;reduce;try simp only [ye,yc]})
def MH:ax:=ao (a:=cc 117) (by conv=>{lhs;reduce;try simp only [ye,yc]})
def Cm:ax:=ao (a:=cc 118) (by conv=>{lhs;reduce;try simp only [ye,yc]})
def c119:ax:=ao (a:=cc 119) (by conv=>{lhs;reduce;try simp only [ye,yc]})
def Eb:ax:=ao (a:=cc 124) (by conv=>{lhs;reduce;try simp only [ye,yc]})
def aal:ax:=ao (a:=cc 125) (by conv=>{lhs;reduce;try simp only [ye,yc]})
def LB:VC:=ao (a:=bY aal [0] []) (by conv=>{lhs;reduce;try simp only [ye,yc]})
def MI:ax:=ao (a:=fun a=>fnv aal [a]) (by conv=>{lhs;reduce;try simp only [ye,yc]}) LB
def Ec:ax:=ao (a:=cc 129) (by conv=>{lhs;reduce;try simp only [ye,yc]})
def aam:ax:=ao (a:=cc 130) (by conv=>{lhs;reduce;try simp only [ye,yc]})
def Hj:VC:=ao (a:=bY aam [0] []) (by conv=>{lhs;reduce;try simp only [ye,yc]})
def R1:ax:=ao (a:=fun a=>fnv aam [a]) (by conv=>{lhs;reduce;try simp only [ye,yc]}) Hj
def aan:ax:=ao (a:=cc 132) (by conv=>{lhs;reduce;try simp only [ye,yc]})
def LC:VC:=ao (a:=bY aan [0] []) (by conv=>{lhs;reduce;try simp only [ye,yc]})
def Ih:ax:=ao (a:=fun a=>fnv aan [a]) (by conv=>{lhs;reduce;try simp only [ye,yc]}) LC
def Q8:ax:=ao (a:=cc 133) (by conv=>{lhs;reduce;try simp only [ye,yc]})
def Hk:VC:=ao (a:=bY Q8 [0,0] []) (by conv=>{lhs;reduce;try simp only [ye,yc]})
def Hl:VC:=ao (a:=fun a=>bY Q8 [0] [a]) (by conv=>{lhs;reduce;try simp only [ye,yc]}) Hk
def Ii:ax:=ao (a:=fun a=>fnv Q8 [a]) (by conv=>{lhs;reduce;try simp only [ye,yc]}) Hl
def Ed:ax:=ao (a:=cc 134) (by conv=>{lhs;reduce;try simp only [ye,yc]})
def Ij:ax:=ao (a:=cc 136) (by conv=>{lhs;reduce;try simp only [ye,yc]})
def L3:ax:=ao (a:=cc 137) (by conv=>{lhs;reduce;try simp only [ye,yc]})
def Hm:VC:=ao (a:=bY L3 [0] []) (by conv=>{lhs;reduce;try simp only [ye,yc]})
def Hn:VC:=ao (a:=bY L3 [1] []) (by conv=>{lhs;reduce;try simp only [ye,yc]})
def DF:VC:=ao (a:=bY L3 [2] []) (by conv=>{lhs;reduce;try simp only [ye,yc]})
def Ik:ax:=ao (a:=fun a b c=>fnv L3 [a,b,c]) (by conv=>{lhs;reduce;try simp only [ye,yc]}) Hm Hn DF
def MJ:ax:=ao (a:=cc 142) (by conv=>{lhs;reduce;try simp only [ye,yc]})
def Q9:ax:=ao (a:=cc 144) (by conv=>{lhs;reduce;try simp only [ye,yc]})
def Ho:VC:=ao (a:=bY Q9 [0,0] []) (by conv=>{lhs;reduce;try simp only [ye,yc]})
def Hr:VC:=ao (a:=fun a=>bY Q9 [0] [a]) (by conv=>{lhs;reduce;try simp only [ye,yc]}) Ho
def MK:ax:=ao (a:=fun a=>fnv Q9 [a]) (by conv=>{lhs;reduce;try simp only [ye,yc]}) Hr
def zg:ax:=ao (a:=cc 145) (by conv=>{lhs;reduce;try simp only [ye,yc]})
def R2:ax:=ao (a:=cc 146) (by conv=>{lhs;reduce;try simp only [ye,yc]})
def Il:ax:=ao (a:=cc 147) (by conv=>{lhs;reduce;try simp only [ye,yc]})
def R3:ax:=ao (a:=cc 148) (by conv=>{lhs;reduce;try simp only [ye,yc]})
def R4:ax:=ao (a:=cc 149) (by conv=>{lhs;reduce;try simp only [ye,yc]})
def AJ:ax:=ao (a:=cc 150) (by conv=>{lhs;reduce;try simp only [ye,yc]})
def ML:ax:=ao (a:=cc 151) (by conv=>{lhs;reduce;try simp only [ye,yc]})
def aao:ax:=ao (a:=cc 155) (by conv=>{lhs;reduce;try simp only [ye,yc]})
def BT:VC:=ao (a:=bY aao [0] []) (by conv=>{lhs;reduce;try simp only [ye,yc]})
def Ee:ax:=ao (a:=fun a=>fnv aao [a]) (by conv=>{lhs;reduce;try simp only [ye,yc]}) BT
def R5:ax:=ao (a:=cc 156) (by conv=>{lhs;reduce;try simp only [ye,yc]})
def aap:ax:=ao (a:=cc 157) (by conv=>{lhs;reduce;try simp only [ye,yc]})
def BU:VC:=ao (a:=bY aap [0] []) (by conv=>{lhs;reduce;try simp only [ye,yc]})
def Im:ax:=ao (a:=fun a=>fnv aap [a]) (by conv=>{lhs;reduce;try simp only [ye,yc]}) BU
def aaq:ax:=ao (a:=cc 158) (by conv=>{lhs;reduce;try simp only [ye,yc]})
def BV:VC:=ao (a:=bY aaq [0] []) (by conv=>{lhs;reduce;try simp only [ye,yc]})
def Ef:ax:=ao (a:=fun a=>fnv aaq [a]) (by conv=>{lhs;reduce;try simp only [ye,yc]}) BV
def aar:ax:=ao (a:=cc 159) (by conv=>{lhs;reduce;try simp only [ye,yc]})
def DG:VC:=ao (a:=bY aar [0] []) (by conv=>{lhs;reduce;try simp only [ye,yc]})
def MM:ax:=ao (a:=fun a=>fnv aar [a]) (by conv=>{lhs;reduce;try simp only [ye,yc]}) DG
def MN:ax:=ao (a:=cc 163) (by conv=>{lhs;reduce;try simp only [ye,yc]})
def mc:ax:=ao (a:=cc 164) (by conv=>{lhs;reduce;try simp only [ye,yc]})
def Rc:ax:=ao (a:=cc 165) (by conv=>{lhs;reduce;try simp only [ye,yc]})
def Am:VC:=ao (a:=bY Rc [0] []) (by conv=>{lhs;reduce;try simp only [ye,yc]})
def An:VC:=ao (a:=bY Rc [1] []) (by conv=>{lhs;reduce;try simp only [ye,yc]})
def Io:ax:=ao (a:=fun a b=>fnv Rc [a,b]) (by conv=>{lhs;reduce;try simp only [ye,yc]}) Am An
def aas:ax:=ao (a:=cc 166) (by conv=>{lhs;reduce;try simp only [ye,yc]})
def BW:VC:=ao (a:=bY aas [0] []) (by conv=>{lhs;reduce;try simp only [ye,yc]})
def AK:ax:=ao (a:=fun a=>fnv aas [a]) (by conv=>{lhs;reduce;try simp only [ye,yc]}) BW
def aat:ax:=ao (a:=cc 168) (by conv=>{lhs;reduce;try simp only [ye,yc]})
def DH:VC:=ao (a:=bY aat [0] []) (by conv=>{lhs;reduce;try simp only [ye,yc]})
def MO:ax:=ao (a:=fun a=>fnv aat [a]) (by conv=>{lhs;reduce;try simp only [ye,yc]}) DH
def L4:ax:=ao (a:=cc 169) (by conv=>{lhs;reduce;try simp only [ye,yc]})
def sP:VC:=ao (a:=bY L4 [0] []) (by conv=>{lhs;reduce;try simp only [ye,yc]})
def Ht:VC:=ao (a:=bY L4 [1] []) (by conv=>{lhs;reduce;try simp only [ye,yc]})
def Hu:VC:=ao (a:=bY L4 [2] []) (by conv=>{lhs;reduce;try simp only [ye,yc]})
def re:ax:=ao (a:=fun a b c=>fnv L4 [a,b,c]) (by conv=>{lhs;reduce;try simp only [ye,yc]}) sP Ht Hu
def Ip:ax:=ao (a:=cc 172) (by conv=>{lhs;reduce;try simp only [ye,yc]})
end
end VE
