import Derived.Test.YtdibafmjplecaaaGreatDoorTad
set_option linter.all false
set_option maxRecDepth 100000
set_option maxHeartbeats 4000000
open Int renaming reduceNegSucc→yc,reduceOfNat→ye
namespace VE
open lF (cc)
noncomputable section
def re:aD:=av (a:=cc 46) (by conv=>{lhs;reduce;try simp only [ye,yc]})
def c49:aD:=av (a:=cc 49) (by conv=>{lhs;reduce;try simp only [ye,yc]})
def Es:aD:=av (a:=cc 50) (by conv=>{lhs;reduce;try simp only [ye,yc]})
def Et:aD:=av (a:=cc 62) (by conv=>{lhs;reduce;try simp only [ye,yc]})
def IX:aD:=av (a:=cc 69) (by conv=>{lhs;reduce;try simp only [ye,yc]})
def IY:aD:=av (a:=cc 70) (by conv=>{lhs;reduce;try simp only [ye,yc]})
def Cn:aD:=av (a:=cc 71) (by conv=>{lhs;reduce;try simp only [ye,yc]})
def Aw:aD:=av (a:=cc 73) (by conv=>{lhs;reduce;try simp only [ye,yc]})
def sQ:aD:=av (a:=cc 74) (by conv=>{lhs;reduce;try simp only [ye,yc]})
def dl:aD:=av (a:=cc 86) (by conv=>{lhs;reduce;try simp only [ye,yc]})
def ahx:aD:=av (a:=cc 88) (by conv=>{lhs;reduce;try simp only [ye,yc]})
def axA:VC:=av (a:=bZ ahx [0] []) (by conv=>{lhs;reduce;try simp only [ye,yc]})
def jR:aD:=av (a:=fun a=>cK ahx [a]) (by conv=>{lhs;reduce;try simp only [ye,yc]}) axA
def NN:aD:=av (a:=cc 98) (by conv=>{lhs;reduce;try simp only [ye,yc]})
def Rj:aD:=av (a:=cc 99) (by conv=>{lhs;reduce;try simp only [ye,yc]})
def nU:VC:=av (a:=bZ Rj [0] []) (by conv=>{lhs;reduce;try simp only [ye,yc]})
def axB:VC:=av (a:=bZ Rj [1] []) (by conv=>{lhs;reduce;try simp only [ye,yc]})
def Co:aD:=av (a:=fun a b=>cK Rj [a,b]) (by conv=>{lhs;reduce;try simp only [ye,yc]}) nU axB
def lk:aD:=av (a:=cc 100) (by conv=>{lhs;reduce;try simp only [ye,yc]})
def lW:aD:=av (a:=cc 101) (by conv=>{lhs;reduce;try simp only [ye,yc]})
def Rk:aD:=av (a:=cc 102) (by conv=>{lhs;reduce;try simp only [ye,yc]})
def ahy:aD:=av (a:=cc 107) (by conv=>{lhs;reduce;try simp only [ye,yc]})
def Ro:aD:=av (a:=cc 108) (by conv=>{lhs;reduce;try simp only [ye,yc]})
def af6:aD:=av (a:=cc 110) (by conv=>{lhs;reduce;try simp only [ye,yc]})
def CZ:VC:=av (a:=bZ af6 [0] []) (by conv=>{lhs;reduce;try simp only [ye,yc]})
def LB:aD:=av (a:=fun a=>cK af6 [a]) (by conv=>{lhs;reduce;try simp only [ye,yc]}) CZ
def Rr:aD:=av (a:=cc 111) (by conv=>{lhs;reduce;try simp only [ye,yc]})
def LC:aD:=av (a:=cc 117) (by conv=>{lhs;reduce;try simp only [ye,yc]})
def BL:aD:=av (a:=cc 118) (by conv=>{lhs;reduce;try simp only [ye,yc]})
def c119:aD:=av (a:=cc 119) (by conv=>{lhs;reduce;try simp only [ye,yc]})
def sd:aD:=av (a:=cc 124) (by conv=>{lhs;reduce;try simp only [ye,yc]})
def af7:aD:=av (a:=cc 125) (by conv=>{lhs;reduce;try simp only [ye,yc]})
def KJ:VC:=av (a:=bZ af7 [0] []) (by conv=>{lhs;reduce;try simp only [ye,yc]})
def LD:aD:=av (a:=fun a=>cK af7 [a]) (by conv=>{lhs;reduce;try simp only [ye,yc]}) KJ
def Dt:aD:=av (a:=cc 129) (by conv=>{lhs;reduce;try simp only [ye,yc]})
def af8:aD:=av (a:=cc 130) (by conv=>{lhs;reduce;try simp only [ye,yc]})
def Gy:VC:=av (a:=bZ af8 [0] []) (by conv=>{lhs;reduce;try simp only [ye,yc]})
def Ru:aD:=av (a:=fun a=>cK af8 [a]) (by conv=>{lhs;reduce;try simp only [ye,yc]}) Gy
def Hw:aD:=av (a:=cc 136) (by conv=>{lhs;reduce;try simp only [ye,yc]})
def K6:aD:=av (a:=cc 137) (by conv=>{lhs;reduce;try simp only [ye,yc]})
def Gz:VC:=av (a:=bZ K6 [0] []) (by conv=>{lhs;reduce;try simp only [ye,yc]})
def GA:VC:=av (a:=bZ K6 [1] []) (by conv=>{lhs;reduce;try simp only [ye,yc]})
def C0:VC:=av (a:=bZ K6 [2] []) (by conv=>{lhs;reduce;try simp only [ye,yc]})
def Hx:aD:=av (a:=fun a b c=>cK K6 [a,b,c]) (by conv=>{lhs;reduce;try simp only [ye,yc]}) Gz GA C0
def LF:aD:=av (a:=cc 142) (by conv=>{lhs;reduce;try simp only [ye,yc]})
def Qz:aD:=av (a:=cc 144) (by conv=>{lhs;reduce;try simp only [ye,yc]})
def GB:VC:=av (a:=bZ Qz [0,0] []) (by conv=>{lhs;reduce;try simp only [ye,yc]})
def GC:VC:=av (a:=fun a=>bZ Qz [0] [a]) (by conv=>{lhs;reduce;try simp only [ye,yc]}) GB
def LH:aD:=av (a:=fun a=>cK Qz [a]) (by conv=>{lhs;reduce;try simp only [ye,yc]}) GC
def se:aD:=av (a:=cc 145) (by conv=>{lhs;reduce;try simp only [ye,yc]})
def Rv:aD:=av (a:=cc 146) (by conv=>{lhs;reduce;try simp only [ye,yc]})
def Hy:aD:=av (a:=cc 147) (by conv=>{lhs;reduce;try simp only [ye,yc]})
def Rw:aD:=av (a:=cc 148) (by conv=>{lhs;reduce;try simp only [ye,yc]})
def Rx:aD:=av (a:=cc 149) (by conv=>{lhs;reduce;try simp only [ye,yc]})
def Hz:aD:=av (a:=cc 150) (by conv=>{lhs;reduce;try simp only [ye,yc]})
def ahz:aD:=av (a:=cc 151) (by conv=>{lhs;reduce;try simp only [ye,yc]})
def af9:aD:=av (a:=cc 155) (by conv=>{lhs;reduce;try simp only [ye,yc]})
def Bh:VC:=av (a:=bZ af9 [0] []) (by conv=>{lhs;reduce;try simp only [ye,yc]})
def BM:aD:=av (a:=fun a=>cK af9 [a]) (by conv=>{lhs;reduce;try simp only [ye,yc]}) Bh
def Ry:aD:=av (a:=cc 156) (by conv=>{lhs;reduce;try simp only [ye,yc]})
def aga:aD:=av (a:=cc 157) (by conv=>{lhs;reduce;try simp only [ye,yc]})
def Bi:VC:=av (a:=bZ aga [0] []) (by conv=>{lhs;reduce;try simp only [ye,yc]})
def HA:aD:=av (a:=fun a=>cK aga [a]) (by conv=>{lhs;reduce;try simp only [ye,yc]}) Bi
def agb:aD:=av (a:=cc 158) (by conv=>{lhs;reduce;try simp only [ye,yc]})
def Bj:VC:=av (a:=bZ agb [0] []) (by conv=>{lhs;reduce;try simp only [ye,yc]})
def Du:aD:=av (a:=fun a=>cK agb [a]) (by conv=>{lhs;reduce;try simp only [ye,yc]}) Bj
def agc:aD:=av (a:=cc 159) (by conv=>{lhs;reduce;try simp only [ye,yc]})
def C1:VC:=av (a:=bZ agc [0] []) (by conv=>{lhs;reduce;try simp only [ye,yc]})
def LI:aD:=av (a:=fun a=>cK agc [a]) (by conv=>{lhs;reduce;try simp only [ye,yc]}) C1
def agd:aD:=av (a:=cc 161) (by conv=>{lhs;reduce;try simp only [ye,yc]})
def atx:VC:=av (a:=bZ agd [0] []) (by conv=>{lhs;reduce;try simp only [ye,yc]})
def ahA:aD:=av (a:=fun a=>cK agd [a]) (by conv=>{lhs;reduce;try simp only [ye,yc]}) atx
def LJ:aD:=av (a:=cc 163) (by conv=>{lhs;reduce;try simp only [ye,yc]})
def ll:aD:=av (a:=cc 164) (by conv=>{lhs;reduce;try simp only [ye,yc]})
def QA:aD:=av (a:=cc 165) (by conv=>{lhs;reduce;try simp only [ye,yc]})
def zF:VC:=av (a:=bZ QA [0] []) (by conv=>{lhs;reduce;try simp only [ye,yc]})
def zG:VC:=av (a:=bZ QA [1] []) (by conv=>{lhs;reduce;try simp only [ye,yc]})
def HB:aD:=av (a:=fun a b=>cK QA [a,b]) (by conv=>{lhs;reduce;try simp only [ye,yc]}) zF zG
def age:aD:=av (a:=cc 166) (by conv=>{lhs;reduce;try simp only [ye,yc]})
def Bk:VC:=av (a:=bZ age [0] []) (by conv=>{lhs;reduce;try simp only [ye,yc]})
def zW:aD:=av (a:=fun a=>cK age [a]) (by conv=>{lhs;reduce;try simp only [ye,yc]}) Bk
def agf:aD:=av (a:=cc 168) (by conv=>{lhs;reduce;try simp only [ye,yc]})
def C2:VC:=av (a:=bZ agf [0] []) (by conv=>{lhs;reduce;try simp only [ye,yc]})
def LK:aD:=av (a:=fun a=>cK agf [a]) (by conv=>{lhs;reduce;try simp only [ye,yc]}) C2
def K7:aD:=av (a:=cc 169) (by conv=>{lhs;reduce;try simp only [ye,yc]})
def rO:VC:=av (a:=bZ K7 [0] []) (by conv=>{lhs;reduce;try simp only [ye,yc]})
def GD:VC:=av (a:=bZ K7 [1] []) (by conv=>{lhs;reduce;try simp only [ye,yc]})
def GF:VC:=av (a:=bZ K7 [2] []) (by conv=>{lhs;reduce;try simp only [ye,yc]})
def qB:aD:=av (a:=fun a b c=>cK K7 [a,b,c]) (by conv=>{lhs;reduce;try simp only [ye,yc]}) rO GD GF
def Rz:aD:=av (a:=cc 172) (by conv=>{lhs;reduce;try simp only [ye,yc]})
end
end VE
