import Derived.Test.YtcifahflapielaaGreatDoorWae
set_option linter.all false
set_option maxRecDepth 100000
section
set_option maxHeartbeats 4000000
namespace VE
open mC (cc)
noncomputable section
def RE:aA:=ao (a:=cc 203) (by conv=>lhs;reduce;simp)
def MV:aA:=ao (a:=cc 228) (by conv=>lhs;reduce;simp)
def MW:aA:=ao (a:=cc 231) (by conv=>lhs;reduce)
def Wg:aA:=ao (a:=cc 232) (by conv=>lhs;reduce;simp)
def Lq:VC:=ao (a:=a7 Wg [0] []) (by conv=>lhs;reduce;simp)
def Lr:VC:=ao (a:=a7 Wg [1] []) (by conv=>lhs;reduce;simp)
def nW:aA:=ao (a:=fun a b=>cf Wg [a,b]) (by conv=>lhs;reduce;simp) Lq Lr
def MX:aA:=ao (a:=cc 241) (by conv=>lhs;reduce;simp)
end
end VE
end
section
set_option maxHeartbeats 4000000
namespace VE
open mC (cc)
noncomputable section
def afk:aA:=ao (a:=cc 261) (by conv=>lhs;reduce;simp)
def Hw:VC:=ao (a:=a7 afk [0] []) (by conv=>lhs;reduce;simp)
def FQ:aA:=ao (a:=fun a=>cf afk [a]) (by conv=>lhs;reduce;simp) Hw
def MY:aA:=ao (a:=cc 262) (by conv=>lhs;reduce;simp)
def dE:aA:=ao (a:=cc 263) (by conv=>lhs;reduce;simp)
def MZ:aA:=ao (a:=cc 264) (by conv=>lhs;reduce)
def FR:aA:=ao (a:=cc 265) (by conv=>lhs;reduce)
def RF:aA:=ao (a:=cc 266) (by conv=>lhs;reduce)
def M0:aA:=ao (a:=cc 267) (by conv=>lhs;reduce)
def M1:aA:=ao (a:=cc 268) (by conv=>lhs;reduce;simp)
def M2:aA:=ao (a:=cc 269) (by conv=>lhs;reduce;simp)
def Xb:aA:=ao (a:=cc 271) (by conv=>lhs;reduce)
def afl:aA:=ao (a:=cc 272) (by conv=>lhs;reduce;simp)
def Hx:VC:=ao (a:=a7 afl [0] []) (by conv=>lhs;reduce;simp)
def M3:aA:=ao (a:=fun a=>cf afl [a]) (by conv=>lhs;reduce;simp) Hx
def FT:aA:=ao (a:=cc 273) (by conv=>lhs;reduce;simp)
def RG:aA:=ao (a:=cc 274) (by conv=>lhs;reduce;simp)
def afm:aA:=ao (a:=cc 275) (by conv=>lhs;reduce;simp)
def Ls:VC:=ao (a:=a7 afm [0] []) (by conv=>lhs;reduce;simp)
def RH:aA:=ao (a:=fun a=>cf afm [a]) (by conv=>lhs;reduce) Ls
def rR:aA:=ao (a:=cc 276) (by conv=>lhs;reduce;simp)
def FU:aA:=ao (a:=cc 277) (by conv=>lhs;reduce;simp)
def RI:aA:=ao (a:=cc 278) (by conv=>lhs;reduce)
def Iv:aA:=ao (a:=cc 279) (by conv=>lhs;reduce;simp)
def pX:aA:=ao (a:=cc 280) (by conv=>lhs;reduce;simp)
def afn:aA:=ao (a:=cc 281) (by conv=>lhs;reduce;simp)
def Am:VC:=ao (a:=a7 afn [0] []) (by conv=>lhs;reduce;simp)
def RJ:aA:=ao (a:=fun a=>cf afn [a]) (by conv=>lhs;reduce;simp) Am
def afo:aA:=ao (a:=cc 282) (by conv=>lhs;reduce;simp)
def Lt:VC:=ao (a:=a7 afo [0] []) (by conv=>lhs;reduce;simp)
def M4:aA:=ao (a:=fun a=>cf afo [a]) (by conv=>lhs;reduce;simp) Lt
def FV:aA:=ao (a:=cc 283) (by conv=>lhs;reduce)
def Xc:aA:=ao (a:=cc 284) (by conv=>lhs;reduce)
def RL:aA:=ao (a:=cc 285) (by conv=>lhs;reduce;simp)
def RM:aA:=ao (a:=cc 286) (by conv=>lhs;reduce;simp)
def afp:aA:=ao (a:=cc 287) (by conv=>lhs;reduce;simp)
def EX:VC:=ao (a:=a7 afp [0] []) (by conv=>lhs;reduce;simp)
def M5:aA:=ao (a:=fun a=>cf afp [a]) (by conv=>lhs;reduce;simp) EX
def afq:aA:=ao (a:=cc 288) (by conv=>lhs;reduce;simp)
def BA:VC:=ao (a:=a7 afq [0] []) (by conv=>lhs;reduce;simp)
def RN:aA:=ao (a:=fun a=>cf afq [a]) (by conv=>lhs;reduce;simp) BA
def Mx:aA:=ao (a:=cc 289) (by conv=>lhs;reduce;simp)
def Lu:VC:=ao (a:=a7 Mx [0] []) (by conv=>lhs;reduce;simp)
def Hy:VC:=ao (a:=a7 Mx [1,0] []) (by conv=>lhs;reduce;simp)
def Lv:VC:=ao (a:=a7 Mx [1,1] []) (by conv=>lhs;reduce;simp)
def Lw:VC:=ao (a:=fun a b=>a7 Mx [1] [a,b]) (by conv=>lhs;reduce;simp) Hy Lv
def AE:aA:=ao (a:=fun a b=>cf Mx [a,b]) (by conv=>lhs;reduce;simp) Lu Lw
def afr:aA:=ao (a:=cc 290) (by conv=>lhs;reduce;simp)
def Lx:VC:=ao (a:=a7 afr [0] []) (by conv=>lhs;reduce;simp)
def Iw:aA:=ao (a:=fun a=>cf afr [a]) (by conv=>lhs;reduce;simp) Lx
def afs:aA:=ao (a:=cc 291) (by conv=>lhs;reduce;simp)
def Ly:VC:=ao (a:=a7 afs [0] []) (by conv=>lhs;reduce;simp)
def M6:aA:=ao (a:=fun a=>cf afs [a]) (by conv=>lhs;reduce;simp) Ly
def aft:aA:=ao (a:=cc 292) (by conv=>lhs;reduce;simp)
def pP:VC:=ao (a:=a7 aft [0] []) (by conv=>lhs;reduce;simp)
def BW:aA:=ao (a:=fun a=>cf aft [a]) (by conv=>lhs;reduce) pP
def Wh:aA:=ao (a:=cc 293) (by conv=>lhs;reduce;simp)
def Lz:VC:=ao (a:=a7 Wh [0,0] []) (by conv=>lhs;reduce;simp)
def LA:VC:=ao (a:=fun a=>a7 Wh [0] [a]) (by conv=>lhs;reduce;simp) Lz
def Dp:aA:=ao (a:=fun a=>cf Wh [a]) (by conv=>lhs;reduce;simp) LA
def Dq:aA:=ao (a:=cc 294) (by conv=>lhs;reduce;simp)
def afu:aA:=ao (a:=cc 295) (by conv=>lhs;reduce;simp)
def rH:VC:=ao (a:=a7 afu [0] []) (by conv=>lhs;reduce;simp)
def M7:aA:=ao (a:=fun a=>cf afu [a]) (by conv=>lhs;reduce;simp) rH
def afv:aA:=ao (a:=cc 296) (by conv=>lhs;reduce;simp)
def EY:VC:=ao (a:=a7 afv [0] []) (by conv=>lhs;reduce;simp)
def AF:aA:=ao (a:=fun a=>cf afv [a]) (by conv=>lhs;reduce;simp) EY
def afw:aA:=ao (a:=cc 297) (by conv=>lhs;reduce;simp)
def An:VC:=ao (a:=a7 afw [0] []) (by conv=>lhs;reduce;simp)
def M8:aA:=ao (a:=fun a=>cf afw [a]) (by conv=>lhs;reduce;simp) An
def RO:aA:=ao (a:=cc 298) (by conv=>lhs;reduce)
def afx:aA:=ao (a:=cc 299) (by conv=>lhs;reduce;simp)
def LB:VC:=ao (a:=a7 afx [0] []) (by conv=>lhs;reduce;simp)
def Dr:aA:=ao (a:=fun a=>cf afx [a]) (by conv=>lhs;reduce;simp) LB
def afy:aA:=ao (a:=cc 300) (by conv=>lhs;reduce;simp)
def EZ:VC:=ao (a:=a7 afy [0] []) (by conv=>lhs;reduce;simp)
def nc:aA:=ao (a:=fun a=>cf afy [a]) (by conv=>lhs;reduce) EZ
def afz:aA:=ao (a:=cc 301) (by conv=>lhs;reduce;simp)
def C4:VC:=ao (a:=a7 afz [0] []) (by conv=>lhs;reduce;simp)
def BX:aA:=ao (a:=fun a=>cf afz [a]) (by conv=>lhs;reduce;simp) C4
def AG:aA:=ao (a:=cc 302) (by conv=>lhs;reduce;simp)
end
end VE
end
section
set_option maxHeartbeats 4000000
namespace VE
open mC (cc)
noncomputable section
def RP:aA:=ao (a:=cc 355) (by conv=>lhs;reduce)
def afA:aA:=ao (a:=cc 389) (by conv=>lhs;reduce;simp)
def Hz:VC:=ao (a:=a7 afA [0] []) (by conv=>lhs;reduce;simp)
def Ix:aA:=ao (a:=fun a=>cf afA [a]) (by conv=>lhs;reduce;simp) Hz
end
end VE
end
section
set_option maxHeartbeats 4000000
namespace VE
open mC (cc)
noncomputable section
def RQ:aA:=ao (a:=cc 429) (by conv=>lhs;reduce)
def Wi:aA:=ao (a:=cc 430) (by conv=>lhs;reduce;simp)
def LC:VC:=ao (a:=a7 Wi [0] []) (by conv=>lhs;reduce;simp)
def LD:VC:=ao (a:=a7 Wi [1] []) (by conv=>lhs;reduce;simp)
def RR:aA:=ao (a:=fun a b=>cf Wi [a,b]) (by conv=>lhs;reduce;simp) LC LD
end
end VE
end
section
set_option maxHeartbeats 4000000
namespace VE
open mC (cc)
noncomputable section
def LF:VC:=.q (.g [qm 11 5,qm 12 0,qn 13 1 12,qT 14 11 13] (.cond (.t 14) .skip (.exit 0))) (.q (.ef 1 (.g [qm 17 0,qm 18 5,qi 19 2 17 18,qL 20 2 19,qm 21 1,qm 22 5,qi 23 2 21 22,qL 24 2 23,Rq 25 (.eq true (.ag [2,2]) (.t 20) (.t 24))] (.i 25 (.e [qf 4])))) (.oR [qm 15 5,qa 16 15 1,qm 5 16]))
def M9:aA:=⟨[.t 4],.g [qf 4] (.h [qm 6 0,qn 7 1 6,qm 8 1,qn 9 1 8,Rq 10 (.z .neq 7 9)] 10 (.e [qf 4]) (.q (.g [qk 5 0] (.q (.ef 0 (.loop [0,1,5] LF)) (.kp []))) (.e [Rq 4 (.sr (.c (.bool true)))])))⟩
def Wj:aA:=ao (a:=cc 661) (by conv=>lhs;reduce;simp)
def HA:VC:=ao (a:=a7 Wj [0,0] []) (by conv=>lhs;reduce;simp)
def LH:VC:=ao (a:=fun a=>a7 Wj [0] [a]) (by conv=>lhs;reduce;simp) HA
def RS:aA:=ao (a:=fun a=>cf Wj [a]) (by conv=>lhs;reduce;simp) LH
def Ic:aA:=ao (a:=cc 663) (by conv=>lhs;reduce;simp)
def HB:VC:=ao (a:=a7 Ic [0,0,0,0,0] []) (by conv=>lhs;reduce;simp)
def HC:VC:=ao (a:=fun a=>a7 Ic [0,0,0,0] [a]) (by conv=>lhs;reduce;simp) HB
def C5:VC:=ao (a:=fun a=>a7 Ic [0,0,0] [a]) (by conv=>lhs;reduce;simp) HC
def HE:VC:=ao (a:=fun a=>a7 Ic [0,0] [a]) (by conv=>lhs;reduce;simp) C5
def LI:VC:=ao (a:=fun a=>a7 Ic [0] [a]) (by conv=>lhs;reduce;simp) HE
def RU:aA:=ao (a:=fun a=>cf Ic [a]) (by conv=>lhs;reduce;simp) LI
def FC:aA:=ao (a:=cc 664) (by conv=>lhs;reduce;simp)
def HF:VC:=ao (a:=a7 FC [0] []) (by conv=>lhs;reduce;simp)
def LJ:VC:=ao (a:=a7 FC [1,0] []) (by conv=>lhs;reduce;simp)
def LK:VC:=ao (a:=fun a=>a7 FC [1] [a]) (by conv=>lhs;reduce;simp) LJ
def HG:VC:=ao (a:=a7 FC [2,0,0] []) (by conv=>lhs;reduce;simp)
def C6:VC:=ao (a:=fun a=>a7 FC [2,0] [a]) (by conv=>lhs;reduce;simp) HG
def LL:VC:=ao (a:=fun a=>a7 FC [2] [a]) (by conv=>lhs;reduce;simp) C6
def RW:aA:=ao (a:=fun a b c=>cf FC [a,b,c]) (by conv=>lhs;reduce;simp) HF LK LL
def afB:aA:=ao (a:=cc 669) (by conv=>lhs;reduce;simp)
def LM:VC:=ao (a:=a7 afB [0] []) (by conv=>lhs;reduce;simp)
def RX:aA:=ao (a:=fun a=>cf afB [a]) (by conv=>lhs;reduce;simp) LM
def RY:aA:=ao (a:=cc 674) (by conv=>lhs;reduce;simp)
def RZ:aA:=ao (a:=cc 685) (by conv=>lhs;reduce;simp)
def Na:aA:=ao (a:=cc 686) (by conv=>lhs;reduce;simp)
def Dt:aA:=ao (a:=cc 692) (by conv=>lhs;reduce;simp)
def Iy:aA:=ao (a:=cc 700) (by conv=>lhs;reduce;simp)
def Du:aA:=ao (a:=cc 701) (by conv=>lhs;reduce;simp)
def Wk:aA:=ao (a:=cc 703) (by conv=>lhs;reduce;simp)
def HH:VC:=ao (a:=a7 Wk [0,0] []) (by conv=>lhs;reduce;simp)
def LO:VC:=ao (a:=fun a=>a7 Wk [0] [a]) (by conv=>lhs;reduce;simp) HH
def R0:aA:=ao (a:=fun a=>cf Wk [a]) (by conv=>lhs;reduce;simp) LO
def My:aA:=ao (a:=cc 704) (by conv=>lhs;reduce;simp)
def E0:VC:=ao (a:=a7 My [0,0,0,0] []) (by conv=>lhs;reduce;simp)
def E1:VC:=ao (a:=fun a=>a7 My [0,0,0] [a]) (by conv=>lhs;reduce;simp) E0
def HI:VC:=ao (a:=fun a=>a7 My [0,0] [a]) (by conv=>lhs;reduce;simp) E1
def LP:VC:=ao (a:=fun a=>a7 My [0] [a]) (by conv=>lhs;reduce;simp) HI
def R1:aA:=ao (a:=fun a=>cf My [a]) (by conv=>lhs;reduce;simp) LP
def FW:aA:=ao (a:=cc 709) (by conv=>lhs;reduce;simp)
def R2:aA:=ao (a:=cc 710) (by conv=>lhs;reduce;simp)
def afC:aA:=ao (a:=cc 711) (by conv=>lhs;reduce;simp)
def HJ:VC:=ao (a:=a7 afC [0] []) (by conv=>lhs;reduce;simp)
def FX:aA:=ao (a:=fun a=>cf afC [a]) (by conv=>lhs;reduce;simp) HJ
def Nb:aA:=ao (a:=cc 712) (by conv=>lhs;reduce;simp)
def afD:aA:=ao (a:=cc 720) (by conv=>lhs;reduce;simp)
def LQ:VC:=ao (a:=a7 afD [0] []) (by conv=>lhs;reduce;simp)
def Nc:aA:=ao (a:=fun a=>cf afD [a]) (by conv=>lhs;reduce;simp) LQ
def Iz:aA:=ao (a:=cc 728) (by conv=>lhs;reduce;simp)
def afE:aA:=ao (a:=cc 729) (by conv=>lhs;reduce;simp)
def HK:VC:=ao (a:=a7 afE [0] []) (by conv=>lhs;reduce;simp)
def IA:aA:=ao (a:=fun a=>cf afE [a]) (by conv=>lhs;reduce;simp) HK
def IB:aA:=ao (a:=cc 735) (by conv=>lhs;reduce;simp)
def afF:aA:=ao (a:=cc 736) (by conv=>lhs;reduce;simp)
def Qi:VC:=ao (a:=a7 afF [0] []) (by conv=>lhs;reduce;simp)
def Nf:aA:=ao (a:=fun a=>cf afF [a]) (by conv=>lhs;reduce;simp) Qi
def afG:aA:=ao (a:=cc 749) (by conv=>lhs;reduce;simp)
def Qj:VC:=ao (a:=a7 afG [0] []) (by conv=>lhs;reduce;simp)
def IC:aA:=ao (a:=fun a=>cf afG [a]) (by conv=>lhs;reduce;simp) Qj
end
end VE
end
section
set_option maxHeartbeats 4000000
namespace VE
open mC (cc)
noncomputable section
def Wl:aA:=ao (a:=cc 759) (by conv=>lhs;reduce;simp)
def LR:VC:=ao (a:=a7 Wl [0,0] []) (by conv=>lhs;reduce;simp)
def oF:VC:=ao (a:=fun a=>a7 Wl [0] [a]) (by conv=>lhs;reduce;simp) LR
def rS:aA:=ao (a:=fun a=>cf Wl [a]) (by conv=>lhs;reduce;simp) oF
def afH:aA:=ao (a:=cc 768) (by conv=>lhs;reduce;simp)
def E2:VC:=ao (a:=a7 afH [0] []) (by conv=>lhs;reduce;simp)
def ID:aA:=ao (a:=fun a=>cf afH [a]) (by conv=>lhs;reduce;simp) E2
def afI:aA:=ao (a:=cc 779) (by conv=>lhs;reduce;simp)
def HL:VC:=ao (a:=a7 afI [0] []) (by conv=>lhs;reduce;simp)
def Ng:aA:=ao (a:=fun a=>cf afI [a]) (by conv=>lhs;reduce;simp) HL
def QH:aA:=ao (a:=cc 780) (by conv=>lhs;reduce;simp)
def HM:VC:=ao (a:=a7 QH [0,0,0] []) (by conv=>lhs;reduce;simp)
def HN:VC:=ao (a:=fun a=>a7 QH [0,0] [a]) (by conv=>lhs;reduce;simp) HM
def HO:VC:=ao (a:=fun a=>a7 QH [0] [a]) (by conv=>lhs;reduce;simp) HN
def R3:aA:=ao (a:=fun a=>cf QH [a]) (by conv=>lhs;reduce;simp) HO
def afJ:aA:=ao (a:=cc 781) (by conv=>lhs;reduce;simp)
def HP:VC:=ao (a:=a7 afJ [0] []) (by conv=>lhs;reduce;simp)
def Nh:aA:=ao (a:=fun a=>cf afJ [a]) (by conv=>lhs;reduce;simp) HP
def Wm:aA:=ao (a:=cc 782) (by conv=>lhs;reduce;simp)
def E3:VC:=ao (a:=a7 Wm [0,0] []) (by conv=>lhs;reduce;simp)
def HQ:VC:=ao (a:=fun a=>a7 Wm [0] [a]) (by conv=>lhs;reduce;simp) E3
def Ni:aA:=ao (a:=fun a=>cf Wm [a]) (by conv=>lhs;reduce;simp) HQ
def Ie:aA:=ao (a:=cc 783) (by conv=>lhs;reduce;simp)
def LS:VC:=ao (a:=a7 Ie [0,0,0,0,0] []) (by conv=>lhs;reduce;simp)
def LU:VC:=ao (a:=fun a=>a7 Ie [0,0,0,0] [a]) (by conv=>lhs;reduce;simp) LS
def HR:VC:=ao (a:=fun a=>a7 Ie [0,0,0] [a]) (by conv=>lhs;reduce;simp) LU
def HS:VC:=ao (a:=fun a=>a7 Ie [0,0] [a]) (by conv=>lhs;reduce;simp) HR
def LV:VC:=ao (a:=fun a=>a7 Ie [0] [a]) (by conv=>lhs;reduce;simp) HS
def Xd:aA:=ao (a:=fun a=>cf Ie [a]) (by conv=>lhs;reduce;simp) LV
def QI:aA:=ao (a:=cc 784) (by conv=>lhs;reduce;simp)
def LW:VC:=ao (a:=a7 QI [0] []) (by conv=>lhs;reduce;simp)
def HT:VC:=ao (a:=a7 QI [1,0] []) (by conv=>lhs;reduce;simp)
def LX:VC:=ao (a:=fun a=>a7 QI [1] [a]) (by conv=>lhs;reduce;simp) HT
def Xe:aA:=ao (a:=fun a b=>cf QI [a,b]) (by conv=>lhs;reduce;simp) LW LX
def Wn:aA:=ao (a:=cc 785) (by conv=>lhs;reduce;simp)
def LY:VC:=ao (a:=a7 Wn [0,0] []) (by conv=>lhs;reduce;simp)
def LZ:VC:=ao (a:=fun a=>a7 Wn [0] [a]) (by conv=>lhs;reduce;simp) LY
def R4:aA:=ao (a:=fun a=>cf Wn [a]) (by conv=>lhs;reduce;simp) LZ
def afK:aA:=ao (a:=cc 789) (by conv=>lhs;reduce;simp)
def L2:VC:=ao (a:=a7 afK [0] []) (by conv=>lhs;reduce;simp)
def Nj:aA:=ao (a:=fun a=>cf afK [a]) (by conv=>lhs;reduce;simp) L2
def IE:aA:=ao (a:=cc 794) (by conv=>lhs;reduce;simp)
def Wo:aA:=ao (a:=cc 795) (by conv=>lhs;reduce;simp)
def HU:VC:=ao (a:=a7 Wo [0,0] []) (by conv=>lhs;reduce;simp)
def L3:VC:=ao (a:=fun a=>a7 Wo [0] [a]) (by conv=>lhs;reduce;simp) HU
def R5:aA:=ao (a:=fun a=>cf Wo [a]) (by conv=>lhs;reduce;simp) L3
def Wp:aA:=ao (a:=cc 796) (by conv=>lhs;reduce;simp)
def HV:VC:=ao (a:=a7 Wp [0,0] []) (by conv=>lhs;reduce;simp)
def L4:VC:=ao (a:=fun a=>a7 Wp [0] [a]) (by conv=>lhs;reduce;simp) HV
def R6:aA:=ao (a:=fun a=>cf Wp [a]) (by conv=>lhs;reduce;simp) L4
def Mz:aA:=ao (a:=cc 797) (by conv=>lhs;reduce;simp)
def L5:VC:=ao (a:=a7 Mz [0,0,0,0] []) (by conv=>lhs;reduce;simp)
def L6:VC:=ao (a:=fun a=>a7 Mz [0,0,0] [a]) (by conv=>lhs;reduce;simp) L5
def L7:VC:=ao (a:=fun a=>a7 Mz [0,0] [a]) (by conv=>lhs;reduce;simp) L6
def L8:VC:=ao (a:=fun a=>a7 Mz [0] [a]) (by conv=>lhs;reduce;simp) L7
def Xf:aA:=ao (a:=fun a=>cf Mz [a]) (by conv=>lhs;reduce;simp) L8
def IF:aA:=ao (a:=cc 798) (by conv=>lhs;reduce;simp)
def afL:aA:=ao (a:=cc 800) (by conv=>lhs;reduce;simp)
def L9:VC:=ao (a:=a7 afL [0] []) (by conv=>lhs;reduce;simp)
def IG:aA:=ao (a:=fun a=>cf afL [a]) (by conv=>lhs;reduce;simp) L9
end
end VE
end
section
namespace VE
open mC (cc)
noncomputable def Wq:Tr aA:=Jg 9 [(29,Jh),(46,SQ),(49,c49),(50,YV),(62,SR),(69,YW),(70,YX),(71,c71),(73,YY),(74,N9),(86,fR),(88,Oa),(98,SS),(99,Gt),(100,nU),(101,oN),(102,W4),(107,Ro),(108,W5),(110,Rr),(111,W6),(117,Ru),(118,FO),(119,c119),(122,MO),(123,MP),(124,Ir),(125,Rv),(129,Is),(130,W7),(136,MQ),(137,MR),(142,Rw),(144,Ry),(145,BV),(146,W8),(147,MS),(148,W9),(149,agN),(150,cc 150),(151,Rz),(155,FP),(156,Xa),(157,MT),(158,It),(159,RA),(160,Iu),(163,RB),(164,nV),(165,MU),(166,Dn),(168,RC),(169,AD),(172,RD),(202,cc 202),(203,RE),(228,MV),(229,cc 229),(230,cc 230),(231,MW),(232,nW),(241,MX),(243,cc 243),(245,cc 245),(246,cc 246),(247,cc 247),(252,cc 252),(261,FQ),(262,MY),(263,dE),(264,MZ),(265,FR),(266,RF),(267,M0),(268,M1),(269,M2),(271,Xb),(272,M3),(273,FT),(274,RG),(275,RH),(276,rR),(277,FU),(278,RI),(279,Iv),(280,pX),(281,RJ),(282,M4),(283,FV),(284,Xc),(285,RL),(286,RM),(287,M5),(288,RN),(289,AE),(290,Iw),(291,M6),(292,BW),(293,Dp),(294,Dq),(295,M7),(296,AF),(297,M8),(298,RO),(299,Dr),(300,nc),(301,BX),(302,AG),(355,RP),(389,Ix),(429,RQ),(430,RR),(637,cc 637),(640,cc 640),(641,cc 641),(643,cc 643),(645,cc 645),(650,cc 650),(652,cc 652),(653,cc 653),(654,cc 654),(655,cc 655),(656,cc 656),(657,cc 657),(658,cc 658),(659,M9),(660,cc 660),(661,RS),(662,cc 662),(663,RU),(664,RW),(665,cc 665),(666,cc 666),(667,cc 667),(668,cc 668),(669,RX),(670,cc 670),(671,cc 671),(672,cc 672),(673,cc 673),(674,RY),(675,cc 675),(676,cc 676),(677,cc 677),(679,cc 679),(685,RZ),(686,Na),(687,cc 687),(688,cc 688),(689,cc 689),(690,cc 690),(691,cc 691),(692,Dt),(693,cc 693),(694,cc 694),(695,cc 695),(696,cc 696),(697,cc 697),(698,cc 698),(699,cc 699),(700,Iy),(701,Du),(702,cc 702),(703,R0),(704,R1),(705,cc 705),(709,FW),(710,R2),(711,FX),(712,Nb),(713,cc 713),(715,cc 715),(716,cc 716),(717,cc 717),(718,cc 718),(719,cc 719),(720,Nc),(721,cc 721),(722,cc 722),(723,cc 723),(724,cc 724),(725,cc 725),(726,cc 726),(727,cc 727),(728,Iz),(729,IA),(735,IB),(736,Nf),(737,cc 737),(738,cc 738),(741,cc 741),(742,cc 742),(744,cc 744),(745,cc 745),(746,cc 746),(749,IC),(750,cc 750),(751,cc 751),(752,cc 752),(753,cc 753),(759,rS),(768,ID),(779,Ng),(780,R3),(781,Nh),(782,Ni),(783,Xd),(784,Xe),(785,R4),(789,Nj),(794,IE),(795,R5),(796,R6),(797,Xf),(798,IF),(800,IG)]
def agO:Tr (List AV->Option AV):=(.n 154 Ms (.n 139 CV (.n 135 Mr (.n 128 O8 (.n 109 Rj .l .l) .l) (.n 138 CB .l .l)) (.n 152 O9 (.n 143 Al .l .l) (.n 153 OW .l .l))) (.n 173 C1 (.n 167 Ia (.n 162 trimS .l .l) (.n 171 pO .l .l)) (.n 248 UO (.n 175 Lg .l .l) (.n 251 TG .l .l))))
noncomputable def prog:aG:=Wq.find
def aI:Lib:=⟨agO.find,fun _=>none⟩
end VE
end
section
namespace VE
namespace mC
open Go
open Go.Proofs
def aqB:Wq.mB (VG Tryz.prog ah b9 hd):=by
 delta Wq
 repeat' first | exact Tr.jG | refine Tr.kP (amC (by kernel_rfl) (by kernel_rfl)) ?_ ?_
end mC
end VE
end
