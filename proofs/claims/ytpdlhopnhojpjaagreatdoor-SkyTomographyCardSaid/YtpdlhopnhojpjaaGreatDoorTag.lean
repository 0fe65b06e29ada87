import Derived.Test.YtpdlhopnhojpjaaGreatDoorTaf
set_option linter.all false
set_option maxRecDepth 100000
set_option maxHeartbeats 4000000
namespace VE
open pP (cc)
noncomputable section
def c4:av:=ap (a:=cc 4)
def c9:av:=ap (a:=cc 9)
def ja:av:=ap (a:=cc 11)
def lF:av:=ap (a:=cc 13)
def c20:av:=ap (a:=cc 20)
def c24:av:=ap (a:=cc 24)
def Vz:av:=ap (a:=cc 27)
def Gp:VC:=ap (a:=bn Vz [0,0] [])
def KD:VC:=(ap (a:=fun a=>bn Vz [0] [a])) Gp
def zI:av:=(ap (a:=fun a=>b5 Vz [a])) KD
def ahA:av:=ap (a:=cc 29)
def KE:VC:=ap (a:=bn ahA [0] [])
def Mi:av:=(ap (a:=fun a=>b5 ahA [a])) KE
def CP:av:=ap (a:=cc 31)
def ahB:av:=ap (a:=cc 32)
def awH:VC:=ap (a:=bn ahB [0] [])
def c32:av:=(ap (a:=fun a=>b5 ahB [a])) awH
def ahC:av:=ap (a:=cc 33)
def Ph:VC:=ap (a:=bn ahC [0] [])
def Hs:av:=(ap (a:=fun a=>b5 ahC [a])) Ph
def c34:av:=ap (a:=cc 34)
def VA:av:=ap (a:=cc 40)
def awI:VC:=ap (a:=bn VA [0] [])
def awJ:VC:=ap (a:=bn VA [1] [])
def c40:av:=(ap (a:=fun a b=>b5 VA [a,b])) awI awJ
def VB:av:=ap (a:=cc 41)
def awK:VC:=ap (a:=bn VB [0] [])
def awL:VC:=ap (a:=bn VB [1] [])
def c41:av:=(ap (a:=fun a b=>b5 VB [a,b])) awK awL
def ahD:av:=ap (a:=cc 42)
def Pj:VC:=ap (a:=bn ahD [0] [])
def Mj:av:=(ap (a:=fun a=>b5 ahD [a])) Pj
def QR:av:=ap (a:=cc 46)
def c49:av:=ap (a:=cc 49)
def Xl:av:=ap (a:=cc 50)
def c51:av:=ap (a:=cc 51)
def c53:av:=ap (a:=cc 53)
def c54:av:=ap (a:=cc 54)
def c55:av:=ap (a:=cc 55)
def ahE:av:=ap (a:=cc 56)
def awM:VC:=ap (a:=bn ahE [0] [])
def c56:av:=(ap (a:=fun a=>b5 ahE [a])) awM
def c57:av:=ap (a:=cc 57)
def c58:av:=ap (a:=cc 58)
def c60:av:=ap (a:=cc 60)
def EK:av:=ap (a:=cc 61)
def QS:av:=ap (a:=cc 62)
def c63:av:=ap (a:=cc 63)
def c64:av:=ap (a:=cc 64)
def c65:av:=ap (a:=cc 65)
def c66:av:=ap (a:=cc 66)
def c67:av:=ap (a:=cc 67)
def c68:av:=⟨[.t 2],.g [qb 1 3 0,qf 2] (.e [qL 3 3 1,qo 4 0 1,qL 5 2 4,Rq 6 (.B4 [.str [],.str [],.str []] [(0,2,.t 5),(2,1,.s [48])]),Rq 7 (.eq false (.ag [2,2,2]) (.t 3) (.t 6)),qm 2 7])⟩
def Xm:av:=ap (a:=cc 69)
def Xn:av:=ap (a:=cc 70)
def c71:av:=ap (a:=cc 71)
def Xo:av:=ap (a:=cc 73)
def Mk:av:=ap (a:=cc 74)
def c75:av:=ap (a:=cc 75)
def Ml:av:=ap (a:=cc 83)
def Ht:av:=ap (a:=cc 84)
def ahF:av:=ap (a:=cc 85)
def D4:VC:=ap (a:=bn ahF [0] [])
def QT:av:=(ap (a:=fun a=>b5 ahF [a])) D4
def fJ:av:=ap (a:=cc 86)
def ahG:av:=ap (a:=cc 87)
def Gq:VC:=ap (a:=bn ahG [0] [])
def QU:av:=(ap (a:=fun a=>b5 ahG [a])) Gq
def ahH:av:=ap (a:=cc 88)
def KF:VC:=ap (a:=bn ahH [0] [])
def Hu:av:=(ap (a:=fun a=>b5 ahH [a])) KF
def VD:av:=ap (a:=cc 89)
def Az:VC:=ap (a:=bn VD [0,0] [])
def Gr:VC:=(ap (a:=fun a=>bn VD [0] [a])) Az
def QV:av:=(ap (a:=fun a=>b5 VD [a])) Gr
def GG:av:=ap (a:=cc 90)
def KG:VC:=ap (a:=bn GG [0] [])
def KH:VC:=ap (a:=bn GG [1,0,0] [])
def D5:VC:=(ap (a:=fun a=>bn GG [1,0] [a])) KH
def KI:VC:=(ap (a:=fun a=>bn GG [1] [a])) D5
def KJ:VC:=ap (a:=bn GG [2] [])
def Bc:av:=(ap (a:=fun a b c=>b5 GG [a,b,c])) KG KI KJ
def QW:av:=ap (a:=cc 91)
def ahI:av:=ap (a:=cc 92)
def Gs:VC:=ap (a:=bn ahI [0] [])
def QX:av:=(ap (a:=fun a=>b5 ahI [a])) Gs
def QY:av:=ap (a:=cc 93)
def c94:av:=ap (a:=cc 94)
def c95:av:=ap (a:=cc 95)
def c96:av:=ap (a:=cc 96)
def c97:av:=ap (a:=cc 97)
def QZ:av:=ap (a:=cc 98)
def VF:av:=ap (a:=cc 99)
def qI:VC:=ap (a:=bn VF [0] [])
def awN:VC:=ap (a:=bn VF [1] [])
def EL:av:=(ap (a:=fun a b=>b5 VF [a,b])) qI awN
def ns:av:=ap (a:=cc 100)
def oh:av:=ap (a:=cc 101)
def VG:av:=ap (a:=cc 102)
def ahJ:av:=ap (a:=cc 103)
def ahK:av:=ap (a:=cc 104)
def ahL:av:=ap (a:=cc 105)
def ae8:av:=ap (a:=cc 106)
def atZ:VC:=ap (a:=bn ae8 [0] [])
def ahM:av:=(ap (a:=fun a=>b5 ae8 [a])) atZ
def PP:av:=ap (a:=cc 107)
def VH:av:=ap (a:=cc 108)
def ae9:av:=ap (a:=cc 110)
def FQ:VC:=ap (a:=bn ae9 [0] [])
def PQ:av:=(ap (a:=fun a=>b5 ae9 [a])) FQ
def VI:av:=ap (a:=cc 111)
def ahN:av:=ap (a:=cc 112)
def ahO:av:=ap (a:=cc 113)
def ahP:av:=ap (a:=cc 114)
def ahQ:av:=ap (a:=cc 115)
def ahR:av:=ap (a:=cc 116)
def PR:av:=ap (a:=cc 117)
def Ec:av:=ap (a:=cc 118)
def c119:av:=ap (a:=cc 119)
def K1:av:=ap (a:=cc 122)
def afa:av:=ap (a:=cc 123)
def JT:VC:=ap (a:=bn afa [0] [])
def K2:av:=(ap (a:=fun a=>b5 afa [a])) JT
def GH:av:=ap (a:=cc 124)
def afb:av:=ap (a:=cc 125)
def OP:VC:=ap (a:=bn afb [0] [])
def PS:av:=(ap (a:=fun a=>b5 afb [a])) OP
def K3:av:=ap (a:=cc 126)
def afc:av:=ap (a:=cc 127)
def OQ:VC:=ap (a:=bn afc [0] [])
def K4:av:=(ap (a:=fun a=>b5 afc [a])) OQ
def GI:av:=ap (a:=cc 129)
def afd:av:=ap (a:=cc 130)
def JU:VC:=ap (a:=bn afd [0] [])
def VJ:av:=(ap (a:=fun a=>b5 afd [a])) JU
def afe:av:=ap (a:=cc 131)
def JV:VC:=ap (a:=bn afe [0] [])
def Cj:av:=(ap (a:=fun a=>b5 afe [a])) JV
def aff:av:=ap (a:=cc 132)
def at0:VC:=ap (a:=bn aff [0] [])
def ahS:av:=(ap (a:=fun a=>b5 aff [a])) at0
def UO:av:=ap (a:=cc 133)
def at1:VC:=ap (a:=bn UO [0,0] [])
def at2:VC:=(ap (a:=fun a=>bn UO [0] [a])) at1
def ahT:av:=(ap (a:=fun a=>b5 UO [a])) at2
def VK:av:=ap (a:=cc 134)
def K5:av:=ap (a:=cc 136)
def Pk:av:=ap (a:=cc 137)
def JW:VC:=ap (a:=bn Pk [0] [])
def JX:VC:=ap (a:=bn Pk [1] [])
def FR:VC:=ap (a:=bn Pk [2] [])
def K6:av:=(ap (a:=fun a b c=>b5 Pk [a,b,c])) JW JX FR
def PT:av:=ap (a:=cc 142)
def UP:av:=ap (a:=cc 144)
def JY:VC:=ap (a:=bn UP [0,0] [])
def JZ:VC:=(ap (a:=fun a=>bn UP [0] [a])) JY
def PU:av:=(ap (a:=fun a=>b5 UP [a])) JZ
def AM:av:=ap (a:=cc 145)
def VL:av:=ap (a:=cc 146)
def K7:av:=ap (a:=cc 147)
def VM:av:=ap (a:=cc 148)
def ahU:av:=ap (a:=cc 149)
def ahV:av:=ap (a:=cc 150)
def PV:av:=ap (a:=cc 151)
def afg:av:=ap (a:=cc 155)
def DG:VC:=ap (a:=bn afg [0] [])
def PW:av:=(ap (a:=fun a=>b5 afg [a])) DG
def VN:av:=ap (a:=cc 156)
def afh:av:=ap (a:=cc 157)
def DH:VC:=ap (a:=bn afh [0] [])
def K8:av:=(ap (a:=fun a=>b5 afh [a])) DH
def afi:av:=ap (a:=cc 158)
def DI:VC:=ap (a:=bn afi [0] [])
def GJ:av:=(ap (a:=fun a=>b5 afi [a])) DI
def afj:av:=ap (a:=cc 159)
def FT:VC:=ap (a:=bn afj [0] [])
def PX:av:=(ap (a:=fun a=>b5 afj [a])) FT
def afk:av:=ap (a:=cc 160)
def FU:VC:=ap (a:=bn afk [0] [])
def GK:av:=(ap (a:=fun a=>b5 afk [a])) FU
def afl:av:=ap (a:=cc 161)
def OR:VC:=ap (a:=bn afl [0] [])
def GL:av:=(ap (a:=fun a=>b5 afl [a])) OR
def PY:av:=ap (a:=cc 163)
def nt:av:=ap (a:=cc 164)
def UQ:av:=ap (a:=cc 165)
def BW:VC:=ap (a:=bn UQ [0] [])
def BX:VC:=ap (a:=bn UQ [1] [])
def K9:av:=(ap (a:=fun a b=>b5 UQ [a,b])) BW BX
def afm:av:=ap (a:=cc 166)
def DJ:VC:=ap (a:=bn afm [0] [])
def Cl:av:=(ap (a:=fun a=>b5 afm [a])) DJ
def afn:av:=ap (a:=cc 168)
def FV:VC:=ap (a:=bn afn [0] [])
def PZ:av:=(ap (a:=fun a=>b5 afn [a])) FV
def Pm:av:=ap (a:=cc 169)
def Ar:VC:=ap (a:=bn Pm [0] [])
def J4:VC:=ap (a:=bn Pm [1] [])
def J5:VC:=ap (a:=bn Pm [2] [])
def za:av:=(ap (a:=fun a b c=>b5 Pm [a,b,c])) Ar J4 J5
def P0:av:=ap (a:=cc 172)
end
end VE
