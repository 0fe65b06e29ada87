import Derived.Test.YtcifahflapielaaGreatDoorWad
set_option linter.all false
set_option maxRecDepth 100000
set_option maxHeartbeats 4000000
namespace VE
open mC (cc)
noncomputable section
def agL:aA:=ao (a:=cc 29) (by conv=>lhs;reduce;simp)
def Mv:VC:=ao (a:=a7 agL [0] []) (by conv=>lhs;reduce;simp)
def Jh:aA:=ao (a:=fun a=>cf agL [a]) (by conv=>lhs;reduce;simp) Mv
def SQ:aA:=ao (a:=cc 46) (by conv=>lhs;reduce)
def c49:aA:=ao (a:=cc 49) (by conv=>lhs;reduce;simp)
def YV:aA:=ao (a:=cc 50) (by conv=>lhs;reduce;simp)
def SR:aA:=ao (a:=cc 62) (by conv=>lhs;reduce;simp)
def YW:aA:=ao (a:=cc 69) (by conv=>lhs;reduce;simp)
def YX:aA:=ao (a:=cc 70) (by conv=>lhs;reduce;simp)
def c71:aA:=ao (a:=cc 71) (by conv=>lhs;reduce;simp)
def YY:aA:=ao (a:=cc 73) (by conv=>lhs;reduce;simp)
def N9:aA:=ao (a:=cc 74) (by conv=>lhs;reduce;simp)
def fR:aA:=ao (a:=cc 86) (by conv=>lhs;reduce;simp)
def agM:aA:=ao (a:=cc 88) (by conv=>lhs;reduce;simp)
def Mw:VC:=ao (a:=a7 agM [0] []) (by conv=>lhs;reduce;simp)
def Oa:aA:=ao (a:=fun a=>cf agM [a]) (by conv=>lhs;reduce;simp) Mw
def SS:aA:=ao (a:=cc 98) (by conv=>lhs;reduce;simp)
def W3:aA:=ao (a:=cc 99) (by conv=>lhs;reduce;simp)
def rM:VC:=ao (a:=a7 W3 [0] []) (by conv=>lhs;reduce;simp)
def aw7:VC:=ao (a:=a7 W3 [1] []) (by conv=>lhs;reduce;simp)
def Gt:aA:=ao (a:=fun a b=>cf W3 [a,b]) (by conv=>lhs;reduce;simp) rM aw7
def nU:aA:=ao (a:=cc 100) (by conv=>lhs;reduce;simp)
def oN:aA:=ao (a:=cc 101) (by conv=>lhs;reduce;simp)
def W4:aA:=ao (a:=cc 102) (by conv=>lhs;reduce;simp)
def Ro:aA:=ao (a:=cc 107) (by conv=>lhs;reduce)
def W5:aA:=ao (a:=cc 108) (by conv=>lhs;reduce;simp)
def ae9:aA:=ao (a:=cc 110) (by conv=>lhs;reduce;simp)
def Hr:VC:=ao (a:=a7 ae9 [0] []) (by conv=>lhs;reduce;simp)
def Rr:aA:=ao (a:=fun a=>cf ae9 [a]) (by conv=>lhs;reduce;simp) Hr
def W6:aA:=ao (a:=cc 111) (by conv=>lhs;reduce;simp)
def Ru:aA:=ao (a:=cc 117) (by conv=>lhs;reduce;simp)
def FO:aA:=ao (a:=cc 118) (by conv=>lhs;reduce;simp)
def c119:aA:=ao (a:=cc 119) (by conv=>lhs;reduce;simp)
def MO:aA:=ao (a:=cc 122) (by conv=>lhs;reduce;simp)
def afa:aA:=ao (a:=cc 123) (by conv=>lhs;reduce;simp)
def Li:VC:=ao (a:=a7 afa [0] []) (by conv=>lhs;reduce;simp)
def MP:aA:=ao (a:=fun a=>cf afa [a]) (by conv=>lhs;reduce;simp) Li
def Ir:aA:=ao (a:=cc 124) (by conv=>lhs;reduce;simp)
def afb:aA:=ao (a:=cc 125) (by conv=>lhs;reduce;simp)
def Qh:VC:=ao (a:=a7 afb [0] []) (by conv=>lhs;reduce;simp)
def Rv:aA:=ao (a:=fun a=>cf afb [a]) (by conv=>lhs;reduce;simp) Qh
def Is:aA:=ao (a:=cc 129) (by conv=>lhs;reduce;simp)
def afc:aA:=ao (a:=cc 130) (by conv=>lhs;reduce;simp)
def Lj:VC:=ao (a:=a7 afc [0] []) (by conv=>lhs;reduce;simp)
def W7:aA:=ao (a:=fun a=>cf afc [a]) (by conv=>lhs;reduce;simp) Lj
def MQ:aA:=ao (a:=cc 136) (by conv=>lhs;reduce;simp)
def QF:aA:=ao (a:=cc 137) (by conv=>lhs;reduce;simp)
def Lk:VC:=ao (a:=a7 QF [0] []) (by conv=>lhs;reduce;simp)
def Ll:VC:=ao (a:=a7 QF [1] []) (by conv=>lhs;reduce;simp)
def Hs:VC:=ao (a:=a7 QF [2] []) (by conv=>lhs;reduce;simp)
def MR:aA:=ao (a:=fun a b c=>cf QF [a,b,c]) (by conv=>lhs;reduce;simp) Lk Ll Hs
def Rw:aA:=ao (a:=cc 142) (by conv=>lhs;reduce;simp)
def We:aA:=ao (a:=cc 144) (by conv=>lhs;reduce;simp)
def Lm:VC:=ao (a:=a7 We [0,0] []) (by conv=>lhs;reduce;simp)
def Ln:VC:=ao (a:=fun a=>a7 We [0] [a]) (by conv=>lhs;reduce;simp) Lm
def Ry:aA:=ao (a:=fun a=>cf We [a]) (by conv=>lhs;reduce;simp) Ln
def BV:aA:=ao (a:=cc 145) (by conv=>lhs;reduce;simp)
def W8:aA:=ao (a:=cc 146) (by conv=>lhs;reduce;simp)
def MS:aA:=ao (a:=cc 147) (by conv=>lhs;reduce;simp)
def W9:aA:=ao (a:=cc 148) (by conv=>lhs;reduce;simp)
def agN:aA:=ao (a:=cc 149) (by conv=>lhs;reduce;simp)
def Rz:aA:=ao (a:=cc 151) (by conv=>lhs;reduce;simp)
def afd:aA:=ao (a:=cc 155) (by conv=>lhs;reduce;simp)
def ET:VC:=ao (a:=a7 afd [0] []) (by conv=>lhs;reduce;simp)
def FP:aA:=ao (a:=fun a=>cf afd [a]) (by conv=>lhs;reduce;simp) ET
def Xa:aA:=ao (a:=cc 156) (by conv=>lhs;reduce;simp)
def afe:aA:=ao (a:=cc 157) (by conv=>lhs;reduce;simp)
def EU:VC:=ao (a:=a7 afe [0] []) (by conv=>lhs;reduce;simp)
def MT:aA:=ao (a:=fun a=>cf afe [a]) (by conv=>lhs;reduce;simp) EU
def aff:aA:=ao (a:=cc 158) (by conv=>lhs;reduce;simp)
def EV:VC:=ao (a:=a7 aff [0] []) (by conv=>lhs;reduce;simp)
def It:aA:=ao (a:=fun a=>cf aff [a]) (by conv=>lhs;reduce;simp) EV
def afg:aA:=ao (a:=cc 159) (by conv=>lhs;reduce;simp)
def Ht:VC:=ao (a:=a7 afg [0] []) (by conv=>lhs;reduce;simp)
def RA:aA:=ao (a:=fun a=>cf afg [a]) (by conv=>lhs;reduce;simp) Ht
def afh:aA:=ao (a:=cc 160) (by conv=>lhs;reduce;simp)
def Hu:VC:=ao (a:=a7 afh [0] []) (by conv=>lhs;reduce;simp)
def Iu:aA:=ao (a:=fun a=>cf afh [a]) (by conv=>lhs;reduce;simp) Hu
def RB:aA:=ao (a:=cc 163) (by conv=>lhs;reduce;simp)
def nV:aA:=ao (a:=cc 164) (by conv=>lhs;reduce;simp)
def Wf:aA:=ao (a:=cc 165) (by conv=>lhs;reduce;simp)
def C2:VC:=ao (a:=a7 Wf [0] []) (by conv=>lhs;reduce;simp)
def C3:VC:=ao (a:=a7 Wf [1] []) (by conv=>lhs;reduce;simp)
def MU:aA:=ao (a:=fun a b=>cf Wf [a,b]) (by conv=>lhs;reduce;simp) C2 C3
def afi:aA:=ao (a:=cc 166) (by conv=>lhs;reduce;simp)
def EW:VC:=ao (a:=a7 afi [0] []) (by conv=>lhs;reduce;simp)
def Dn:aA:=ao (a:=fun a=>cf afi [a]) (by conv=>lhs;reduce) EW
def afj:aA:=ao (a:=cc 168) (by conv=>lhs;reduce;simp)
def Hv:VC:=ao (a:=a7 afj [0] []) (by conv=>lhs;reduce;simp)
def RC:aA:=ao (a:=fun a=>cf afj [a]) (by conv=>lhs;reduce;simp) Hv
def QG:aA:=ao (a:=cc 169) (by conv=>lhs;reduce;simp)
def Bz:VC:=ao (a:=a7 QG [0] []) (by conv=>lhs;reduce;simp)
def Lo:VC:=ao (a:=a7 QG [1] []) (by conv=>lhs;reduce;simp)
def Lp:VC:=ao (a:=a7 QG [2] []) (by conv=>lhs;reduce;simp)
def AD:aA:=ao (a:=fun a b c=>cf QG [a,b,c]) (by conv=>lhs;reduce;simp) Bz Lo Lp
def RD:aA:=ao (a:=cc 172) (by conv=>lhs;reduce;simp)
end
end VE
