import Derived.Test.YtpdlhopnhojpjaaGreatDoorTaf
set_option linter.all false
set_option maxRecDepth 100000
set_option maxHeartbeats 4000000
open Int renaming reduceNegSucc→yb,reduceOfNat→yc
namespace VE
open pP (cc)
noncomputable section
def c4:av:=ap (a:=cc 4) (by conv=>{lhs;reduce;try simp only [yc,yb]})
def c9:av:=ap (a:=cc 9) (by conv=>{lhs;reduce;try simp only [yc,yb]})
def ja:av:=ap (a:=cc 11) (by conv=>{lhs;reduce;try simp only [yc,yb]})
def lF:av:=ap (a:=cc 13) (by conv=>{lhs;reduce;try simp only [yc,yb]})
def c20:av:=ap (a:=cc 20) (by conv=>{lhs;reduce;try simp only [yc,yb]})
def c24:av:=ap (a:=cc 24) (by conv=>{lhs;reduce;try simp only [yc,yb]})
def Vz:av:=ap (a:=cc 27) (by conv=>{lhs;reduce;try simp only [yc,yb]})
def Gp:VC:=ap (a:=bn Vz [0,0] []) (by conv=>{lhs;reduce;try simp only [yc,yb]})
def KD:VC:=ap (a:=fun a=>bn Vz [0] [a]) (by conv=>{lhs;reduce;try simp only [yc,yb]}) Gp
def zI:av:=ap (a:=fun a=>b5 Vz [a]) (by conv=>{lhs;reduce;try simp only [yc,yb]}) KD
def ahA:av:=ap (a:=cc 29) (by conv=>{lhs;reduce;try simp only [yc,yb]})
def KE:VC:=ap (a:=bn ahA [0] []) (by conv=>{lhs;reduce;try simp only [yc,yb]})
def Mi:av:=ap (a:=fun a=>b5 ahA [a]) (by conv=>{lhs;reduce;try simp only [yc,yb]}) KE
def CP:av:=ap (a:=cc 31) (by conv=>{lhs;reduce;try simp only [yc,yb]})
def ahB:av:=ap (a:=cc 32) (by conv=>{lhs;reduce;try simp only [yc,yb]})
def awH:VC:=ap (a:=bn ahB [0] []) (by conv=>{lhs;reduce;try simp only [yc,yb]})
def c32:av:=ap (a:=fun a=>b5 ahB [a]) (by conv=>{lhs;reduce;try simp only [yc,yb]}) awH
def ahC:av:=ap (a:=cc 33) (by conv=>{lhs;reduce;try simp only [yc,yb]})
def Ph:VC:=ap (a:=bn ahC [0] []) (by conv=>{lhs;reduce;try simp only [yc,yb]})
def Hs:av:=ap (a:=fun a=>b5 ahC [a]) (by conv=>{lhs;reduce;try simp only [yc,yb]}) Ph
def c34:av:=ap (a:=cc 34) (by conv=>{lhs;reduce;try simp only [yc,yb]})
def VA:av:=ap (a:=cc 40) (by conv=>{lhs;reduce;try simp only [yc,yb]})
def awI:VC:=ap (a:=bn VA [0] []) (by conv=>{lhs;reduce;try simp only [yc,yb]})
def awJ:VC:=ap (a:=bn VA [1] []) (by conv=>{lhs;reduce;try simp only [yc,yb]})
def c40:av:=ap (a:=fun a b=>b5 VA [a,b]) (by conv=>{lhs;reduce;try simp only [yc,yb]}) awI awJ
def VB:av:=ap (a:=cc 41) (by conv=>{lhs;reduce;try simp only [yc,yb]})
def awK:VC:=ap (a:=bn VB [0] []) (by conv=>{lhs;reduce;try simp only [yc,yb]})
def awL:VC:=ap (a:=bn VB [1] []) (by conv=>{lhs;reduce;try simp only [yc,yb]})
def c41:av:=ap (a:=fun a b=>b5 VB [a,b]) (by conv=>{lhs;reduce;try simp only [yc,yb]}) awK awL
def ahD:av:=ap (a:=cc 42) (by conv=>{lhs;reduce;try simp only [yc,yb]})
def Pj:VC:=ap (a:=bn ahD [0] []) (by conv=>{lhs;reduce;try simp only [yc,yb]})
def Mj:av:=ap (a:=fun a=>b5 ahD [a]) (by conv=>{lhs;reduce;try simp only [yc,yb]}) Pj
def QR:av:=ap (a:=cc 46) (by conv=>{lhs;reduce;try simp only [yc,yb]})
def c49:av:=ap (a:=cc 49) (by conv=>{lhs;reduce;try simp only [yc,yb]})
def Xl:av:=ap (a:=cc 50) (by conv=>{lhs;reduce;try simp only [yc,yb]})
def c51:av:=ap (a:=cc 51) (by conv=>{lhs;reduce;try simp only [yc,yb]})
def c53:av:=ap (a:=cc 53) (by conv=>{lhs;reduce;try simp only [yc,yb]})
def c54:av:=ap (a:=cc 54) (by conv=>{lhs;reduce;try simp only [yc,yb]})
def c55:av:=ap (a:=cc 55) (by conv=>{lhs;reduce;try simp only [yc,yb]})
def ahE:av:=ap (a:=cc 56) (by conv=>{lhs;reduce;try simp only [yc,yb]})
def awM:VC:=ap (a:=bn ahE [0] []) (by conv=>{lhs;reduce;try simp only [yc,yb]})
def c56:av:=ap (a:=fun a=>b5 ahE [a]) (by conv=>{lhs;reduce;try simp only [yc,yb]}) awM
def c57:av:=ap (a:=cc 57) (by conv=>{lhs;reduce;try simp only [yc,yb]})
def c58:av:=ap (a:=cc 58) (by conv=>{lhs;reduce;try simp only [yc,yb]})
def c60:av:=ap (a:=cc 60) (by conv=>{lhs;reduce;try simp only [yc,yb]})
def EK:av:=ap (a:=cc 61) (by conv=>{lhs;reduce;try simp only [yc,yb]})
def QS:av:=ap (a:=cc 62) (by conv=>{lhs;reduce;try simp only [yc,yb]})
def c63:av:=ap (a:=cc 63) (by conv=>{lhs;reduce;try simp only [yc,yb]})
def c64:av:=ap (a:=cc 64) (by conv=>{lhs;reduce;try simp only [yc,yb]})
def c65:av:=ap (a:=cc 65) (by conv=>{lhs;reduce;try simp only [yc,yb]})
def c66:av:=ap (a:=cc 66) (by conv=>{lhs;reduce;try simp only [yc,yb]})
def c67:av:=ap (a:=cc 67) (by conv=>{lhs;reduce;try simp only [yc,yb]})
def c68:av:=⟨[.t 2],.g [qb 1 3 0,qf 2] (.e [qL 3 3 1,qo 4 0 1,qL 5 2 4,Rq 6 (.B4 [.str [],.str [],.str []] [(0,2,.t 5),(2,1,.s [48])]),Rq 7 (.eq false (.ag [2,2,2]) (.t 3) (.t 6)),qm 2 7])⟩
def Xm:av:=ap (a:=cc 69) (by conv=>{lhs;reduce;try simp only [yc,yb]})
def Xn:av:=ap (a:=cc 70) (by conv=>{lhs;reduce;try simp only [yc,yb]})
def c71:av:=ap (a:=cc 71) (by conv=>{lhs;reduce;try simp only [yc,yb]})
def Xo:av:=ap (a:=cc 73) (by conv=>{lhs;reduce;try simp only [yc,yb]})
def Mk:av:=ap (a:=cc 74) (by conv=>{lhs;reduce;try simp only [yc,yb]})
def c75:av:=ap (a:=cc 75) (by conv=>{lhs;reduce;try simp only [yc,yb]})
def Ml:av:=ap (a:=cc 83) (by conv=>{lhs;reduce;try simp only [yc,yb]})
def Ht:av:=ap (a:=cc 84) (by conv=>{lhs;reduce;try simp only [yc,yb]})
def ahF:av:=ap (a:=cc 85) (by conv=>{lhs;reduce;try simp only [yc,yb]})
def D4:VC:=ap (a:=bn ahF [0] []) (by conv=>{lhs;reduce;try simp only [yc,yb]})
def QT:av:=ap (a:=fun a=>b5 ahF [a]) (by conv=>{lhs;reduce;try simp only [yc,yb]}) D4
def fJ:av:=ap (a:=cc 86) (by conv=>{lhs;reduce;try simp only [yc,yb]})
def ahG:av:=ap (a:=cc 87) (by conv=>{lhs;reduce;try simp only [yc,yb]})
def Gq:VC:=ap (a:=bn ahG [0] []) (by conv=>{lhs;reduce;try simp only [yc,yb]})
def QU:av:=ap (a:=fun a=>b5 ahG [a]) (by conv=>{lhs;reduce;try simp only [yc,yb]}) Gq
def ahH:av:=ap (a:=cc 88) (by conv=>{lhs;reduce;try simp only [yc,yb]})
def KF:VC:=ap (a:=bn ahH [0] []) (by conv=>{lhs;reduce;try simp only [yc,yb]})
def Hu:av:=ap (a:=fun a=>b5 ahH [a]) (by conv=>{lhs;reduce;try simp only [yc,yb]}) KF
def VD:av:=ap (a:=cc 89) (by conv=>{lhs;reduce;try simp only [yc,yb]})
def Az:VC:=ap (a:=bn VD [0,0] []) (by conv=>{lhs;reduce;try simp only [yc,yb]})
def Gr:VC:=ap (a:=fun a=>bn VD [0] [a]) (by conv=>{lhs;reduce;try simp only [yc,yb]}) Az
def QV:av:=ap (a:=fun a=>b5 VD [a]) (by conv=>{lhs;reduce;try simp only [yc,yb]}) Gr
def GG:av:=ap (a:=cc 90) (by conv=>{lhs;reduce;try simp only [yc,yb]})
def KG:VC:=ap (a:=bn GG [0] []) (by conv=>{lhs;reduce;try simp only [yc,yb]})
def KH:VC:=ap (a:=bn GG [1,0,0] []) (by conv=>{lhs;reduce;try simp only [yc,yb]})
def D5:VC:=ap (a:=fun a=>bn GG [1,0] [a]) (by conv=>{lhs;reduce;try simp only [yc,yb]}) KH
def KI:VC:=ap (a:=fun a=>bn GG [1] [a]) (by conv=>{lhs;reduce;try simp only [yc,yb]}) D5
def KJ:VC:=ap (a:=bn GG [2] []) (by conv=>{lhs;reduce;try simp only [yc,yb]})
def Bc:av:=ap (a:=fun a b c=>b5 GG [a,b,c]) (by conv=>{lhs;reduce;try simp only [yc,yb]}) KG KI KJ
def QW:av:=ap (a:=cc 91) (by conv=>{lhs;reduce;try simp only [yc,yb]})
def ahI:av:=ap (a:=cc 92) (by conv=>{lhs;reduce;try simp only [yc,yb]})
def Gs:VC:=ap (a:=bn ahI [0] []) (by conv=>{lhs;reduce;try simp only [yc,yb]})
def QX:av:=ap (a:=fun a=>b5 ahI [a]) (by conv=>{lhs;reduce;try simp only [yc,yb]}) Gs
def QY:av:=ap (a:=cc 93) (by conv=>{lhs;reduce;try simp only [yc,yb]})
def c94:av:=ap (a:=cc 94) (by conv=>{lhs;reduce;try simp only [yc,yb]})
def c95:av:=ap (a:=cc 95) (by conv=>{lhs;reduce;try simp only [yc,yb]})
def c96:av:=ap (a:=cc 96) (by conv=>{lhs;reduce;try simp only [yc,yb]})
def c97:av:=ap (a:=cc 97) (by conv=>{lhs;reduce;try simp only [yc,yb]})
def QZ:av:=ap (a:=cc 98) (by conv=>{lhs;reduce;try simp only [yc,yb]})
def VF:av:=ap (a:=cc 99) (by conv=>{lhs;reduce;try simp only [yc,yb]})
def qI:VC:=ap (a:=bn VF [0] []) (by conv=>{lhs;reduce;try simp only [yc,yb]})
def awN:VC:=ap (a:=bn VF [1] []) (by conv=>{lhs;reduce;try simp only [yc,yb]})
def EL:av:=ap (a:=fun a b=>b5 VF [a,b]) (by conv=>{lhs;reduce;try simp only [yc,yb]}) qI awN
def ns:av:=ap (a:=cc 100) (by conv=>{lhs;reduce;try simp only [yc,yb]})
def oh:av:=ap (a:=cc 101) (by conv=>{lhs;reduce;try simp only [yc,yb]})
def VG:av:=ap (a:=cc 102) (by conv=>{lhs;reduce;try simp only [yc,yb]})
def ahJ:av:=ap (a:=cc 103) (by conv=>{lhs;reduce;try simp only [yc,yb]})
def ahK:av:=ap (a:=cc 104) (by conv=>{lhs;reduce;try simp only [yc,yb]})
def ahL:av:=ap (a:=cc 105) (by conv=>{lhs;reduce;try simp only [yc,yb]})
def ae8:av:=ap (a:=cc 106) (by conv=>{lhs;reduce;try simp only [yc,yb]})
def atZ:VC:=ap (a:=bn ae8 [0] []) (by conv=>{lhs;reduce;try simp only [yc,yb]})
def ahM:av:=ap (a:=fun a=>b5 ae8 [a]) (by conv=>{lhs;reduce;try simp only [yc,yb]}) atZ
def PP:av:=ap (a:=cc 107) (by conv=>{lhs;reduce;try simp only [yc,yb]})
def VH:av:=ap (a:=cc 108) (by conv=>{lhs;reduce;try simp only [yc,yb]})
def ae9:av:=ap (a:=cc 110) (by conv=>{lhs;reduce;try simp only [yc,yb]})
def FQ:VC:=ap (a:=bn ae9 [0] []) (by conv=>{lhs;reduce;try simp only [yc,yb]})
def PQ:av:=ap (a:=fun a=>b5 ae9 [a]) (by conv=>{lhs;reduce;try simp only [yc,yb]}) FQ
def VI:av:=ap (a:=cc 111) (by conv=>{lhs;reduce;try simp only [yc,yb]})
def ahN:av:=ap (a:=cc 112) (by conv=>{lhs;reduce;try simp only [yc,yb]})
def ahO:av:=ap (a:=cc 113) (by conv=>{lhs;reduce;try simp only [yc,yb]})
def ahP:av:=ap (a:=cc 114) (by conv=>{lhs;reduce;try simp only [yc,yb]})
def ahQ:av:=ap (a:=cc 115) (by conv=>{lhs;reduce;try simp only [yc,yb]})
def ahR:av:=ap (a:=cc 116) (by conv=>{lhs;reduce;try simp only [yc,yb]})
def PR:av:=ap (a:=cc 117) (by conv=>{lhs;reduce;try simp only [yc,yb]})
def Ec:av:=ap (a:=cc 118) (by conv=>{lhs;reduce;try simp only [yc,yb]})
def c119:av:=ap (a:=cc 119) (by conv=>{lhs;reduce;try simp only [yc,yb]})
def K1:av:=ap (a:=cc 122) (by conv=>{lhs;reduce;try simp only [yc,yb]})
def afa:av:=ap (a:=cc 123) (by conv=>{lhs;reduce;try simp only [yc,yb]})
def JT:VC:=ap (a:=bn afa [0] []) (by conv=>{lhs;reduce;try simp only [yc,yb]})
def K2:av:=ap (a:=fun a=>b5 afa [a]) (by conv=>{lhs;reduce;try simp only [yc,yb]}) JT
def GH:av:=ap (a:=cc 124) (by conv=>{lhs;reduce;try simp only [yc,yb]})
def afb:av:=ap (a:=cc 125) (by conv=>{lhs;reduce;try simp only [yc,yb]})
def OP:VC:=ap (a:=bn afb [0] []) (by conv=>{lhs;reduce;try simp only [yc,yb]})
def PS:av:=ap (a:=fun a=>b5 afb [a]) (by conv=>{lhs;reduce;try simp only [yc,yb]}) OP
def K3:av:=ap (a:=cc 126) (by conv=>{lhs;reduce;try simp only [yc,yb]})
def afc:av:=ap (a:=cc 127) (by conv=>{lhs;reduce;try simp only [yc,yb]})
def OQ:VC:=ap (a:=bn afc [0] []) (by conv=>{lhs;reduce;try simp only [yc,yb]})
def K4:av:=ap (a:=fun a=>b5 afc [a]) (by conv=>{lhs;reduce;try simp only [yc,yb]}) OQ
def GI:av:=ap (a:=cc 129) (by conv=>{lhs;reduce;try simp only [yc,yb]})
def afd:av:=ap (a:=cc 130) (by conv=>{lhs;reduce;try simp only [yc,yb]})
def JU:VC:=ap (a:=bn afd [0] []) (by conv=>{lhs;reduce;try simp only [yc,yb]})
def VJ:av:=ap (a:=fun a=>b5 afd [a]) (by conv=>{lhs;reduce;try simp only [yc,yb]}) JU
def afe:av:=ap (a:=cc 131) (by conv=>{lhs;reduce;try simp only [yc,yb]})
def JV:VC:=ap (a:=bn afe [0] []) (by conv=>{lhs;reduce;try simp only [yc,yb]})
def Cj:av:=ap (a:=fun a=>b5 afe [a]) (by conv=>{lhs;reduce;try simp only [yc,yb]}) JV
def aff:av:=ap (a:=cc 132) (by conv=>{lhs;reduce;try simp only [yc,yb]})
def at0:VC:=ap (a:=bn aff [0] []) (by conv=>{lhs;reduce;try simp only [yc,yb]})
def ahS:av:=ap (a:=fun a=>b5 aff [a]) (by conv=>{lhs;reduce;try simp only [yc,yb]}) at0
def UO:av:=ap (a:=cc 133) (by conv=>{lhs;reduce;try simp only [yc,yb]})
def at1:VC:=ap (a:=bn UO [0,0] []) (by conv=>{lhs;reduce;try simp only [yc,yb]})
def at2:VC:=ap (a:=fun a=>bn UO [0] [a]) (by conv=>{lhs;reduce;try simp only [yc,yb]}) at1
def ahT:av:=ap (a:=fun a=>b5 UO [a]) (by conv=>{lhs;reduce;try simp only [yc,yb]}) at2
def VK:av:=ap (a:=cc 134) (by conv=>{lhs;reduce;try simp only [yc,yb]})
def K5:av:=ap (a:=cc 136) (by conv=>{lhs;reduce;try simp only [yc,yb]})
def Pk:av:=ap (a:=cc 137) (by conv=>{lhs;reduce;try simp only [yc,yb]})
def JW:VC:=ap (a:=bn Pk [0] []) (by conv=>{lhs;reduce;try simp only [yc,yb]})
def JX:VC:=ap (a:=bn Pk [1] []) (by conv=>{lhs;reduce;try simp only [yc,yb]})
def FR:VC:=ap (a:=bn Pk [2] []) (by conv=>{lhs;reduce;try simp only [yc,yb]})
def K6:av:=ap (a:=fun a b c=>b5 Pk [a,b,c]) (by conv=>{lhs;reduce;try simp only [yc,yb]}) JW JX FR
def PT:av:=ap (a:=cc 142) (by conv=>{lhs;reduce;try simp only [yc,yb]})
def UP:av:=ap (a:=cc 144) (by conv=>{lhs;reduce;try simp only [yc,yb]})
def JY:VC:=ap (a:=bn UP [0,0] []) (by conv=>{lhs;reduce;try simp only [yc,yb]})
def JZ:VC:=ap (a:=fun a=>bn UP [0] [a]) (by conv=>{lhs;reduce;try simp only [yc,yb]}) JY
def PU:av:=ap (a:=fun a=>b5 UP [a]) (by conv=>{lhs;reduce;try simp only [yc,yb]}) JZ
def AM:av:=ap (a:=cc 145) (by conv=>{lhs;reduce;try simp only [yc,yb]})
def VL:av:=ap (a:=cc 146) (by conv=>{lhs;reduce;try simp only [yc,yb]})
def K7:av:=ap (a:=cc 147) (by conv=>{lhs;reduce;try simp only [yc,yb]})
def VM:av:=ap (a:=cc 148) (by conv=>{lhs;reduce;try simp only [yc,yb]})
def ahU:av:=ap (a:=cc 149) (by conv=>{lhs;reduce;try simp only [yc,yb]})
def ahV:av:=ap (a:=cc 150) (by conv=>{lhs;reduce;try simp only [yc,yb]})
def PV:av:=ap (a:=cc 151) (by conv=>{lhs;reduce;try simp only [yc,yb]})
def afg:av:=ap (a:=cc 155) (by conv=>{lhs;reduce;try simp only [yc,yb]})
def DG:VC:=ap (a:=bn afg [0] []) (by conv=>{lhs;reduce;try simp only [yc,yb]})
def PW:av:=ap (a:=fun a=>b5 afg [a]) (by conv=>{lhs;reduce;try simp only [yc,yb]}) DG
def VN:av:=ap (a:=cc 156) (by conv=>{lhs;reduce;try simp only [yc,yb]})
def afh:av:=ap (a:=cc 157) (by conv=>{lhs;reduce;try simp only [yc,yb]})
def DH:VC:=ap (a:=bn afh [0] []) (by conv=>{lhs;reduce;try simp only [yc,yb]})
def K8:av:=ap (a:=fun a=>b5 afh [a]) (by conv=>{lhs;reduce;try simp only [yc,yb]}) DH
def afi:av:=ap (a:=cc 158) (by conv=>{lhs;reduce;try simp only [yc,yb]})
def DI:VC:=ap (a:=bn afi [0] []) (by conv=>{lhs;reduce;try simp only [yc,yb]})
def GJ:av:=ap (a:=fun a=>b5 afi [a]) (by conv=>{lhs;reduce;try simp only [yc,yb]}) DI
def afj:av:=ap (a:=cc 159) (by conv=>{lhs;reduce;try simp only [yc,yb]})
def FT:VC:=ap (a:=bn afj [0] []) (by conv=>{lhs;reduce;try simp only [yc,yb]})
def PX:av:=ap (a:=fun a=>b5 afj [a]) (by conv=>{lhs;reduce;try simp only [yc,yb]}) FT
def afk:av:=ap (a:=cc 160) (by conv=>{lhs;reduce;try simp only [yc,yb]})
def FU:VC:=ap (a:=bn afk [0] []) (by conv=>{lhs;reduce;try simp only [yc,yb]})
def GK:av:=ap (a:=fun a=>b5 afk [a]) (by conv=>{lhs;reduce;try simp only [yc,yb]}) FU
def afl:av:=ap (a:=cc 161) (by conv=>{lhs;reduce;try simp only [yc,yb]})
def OR:VC:=ap (a:=bn afl [0] []) (by conv=>{lhs;reduce;try simp only [yc,yb]})
def GL:av:=ap (a:=fun a=>b5 afl [a]) (by conv=>{lhs;reduce;try simp only [yc,yb]}) OR
def PY:av:=ap (a:=cc 163) (by conv=>{lhs;reduce;try simp only [yc,yb]})
def nt:av:=ap (a:=cc 164) (by conv=>{lhs;reduce;try simp only [yc,yb]})
def UQ:av:=ap (a:=cc 165) (by conv=>{lhs;reduce;try simp only [yc,yb]})
def BW:VC:=ap (a:=bn UQ [0] []) (by conv=>{lhs;reduce;try simp only [yc,yb]})
def BX:VC:=ap (a:=bn UQ [1] []) (by conv=>{lhs;reduce;try simp only [yc,yb]})
def K9:av:=ap (a:=fun a b=>b5 UQ [a,b]) (by conv=>{lhs;reduce;try simp only [yc,yb]}) BW BX
def afm:av:=ap (a:=cc 166) (by conv=>{lhs;reduce;try simp only [yc,yb]})
def DJ:VC:=ap (a:=bn afm [0] []) (by conv=>{lhs;reduce;try simp only [yc,yb]})
def Cl:av:=ap (a:=fun a=>b5 afm [a]) (by conv=>{lhs;reduce;try simp only [yc,yb]}) DJ
def afn:av:=ap (a:=cc 168) (by conv=>{lhs;reduce;try simp only [yc,yb]})
def FV:VC:=ap (a:=bn afn [0] []) (by conv=>{lhs;reduce;try simp only [yc,yb]})
def PZ:av:=ap (a:=fun a=>b5 afn [a]) (by conv=>{lhs;reduce;try simp only [yc,yb]}) FV
def Pm:av:=ap (a:=cc 169) (by conv=>{lhs;reduce;try simp only [yc,yb]})
def Ar:VC:=ap (a:=bn Pm [0] []) (by conv=>{lhs;reduce;try simp only [yc,yb]})
def J4:VC:=ap (a:=bn Pm [1] []) (by conv=>{lhs;reduce;try simp only [yc,yb]})
def J5:VC:=ap (a:=bn Pm [2] []) (by conv=>{lhs;reduce;try simp only [yc,yb]})
def za:av:=ap (a:=fun a b c=>b5 Pm [a,b,c]) (by conv=>{lhs;reduce;try simp only [yc,yb]}) Ar J4 J5
def P0:av:=ap (a:=cc 172) (by conv=>{lhs;reduce;try simp only [yc,yb]})
end
end VE
